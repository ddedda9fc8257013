/-
  What the functions that the law reaches compute: typed pure functions, checked against the code.
-/
import Derived.Test.YtolabkhcmcfnpaaProg
import Derived.Test.YtolabkhcmcfnpaaE4
import Derived.Test.YtolabkhcmcfnpaaS
namespace Go.Proofs.Ytolabkhcmcfnpaa.V
open Go.Ve Go.Proofs
set_option linter.unusedVariables false
set_option linter.unusedSimpArgs false
set_option maxRecDepth 100000
def tab : Tab := [(3, .data ⟨I, 0, 8, false⟩), (4, .data ⟨.bool, 0, 1, false⟩), (22, .data ⟨(.list (.list I)), 0, 24, false⟩), (23, .data ⟨(.list (.prod I I)), 0, 16, false⟩), (25, .data ⟨(.prod (.list (.list I)) (.list (.prod I I))), 2, 48, false⟩), (26, .data ⟨(.list I), 0, 8, false⟩), (30, .data ⟨(.prod (.list (.list I)) (.list (.prod I I))), 2, 48, false⟩), (71, .data ⟨(.prod I I), 2, 16, true⟩), (72, .fn), (79, .fn), (90, .data ⟨(.list I), 0, 8, false⟩), (125, .data ⟨(.int .u64), 0, 8, false⟩)]
theorem follows : Try.prog.follows .mixedOrders = true := by kernel_rfl
theorem ti3 : TiOk Try.prog tab 3 ⟨I, 0, 8, false⟩ := ti_int (by kernel_rfl) Try.underlying3
theorem ti4 : TiOk Try.prog tab 4 ⟨.bool, 0, 1, false⟩ := ti_bool (by kernel_rfl) Try.underlying4
theorem ti22 : TiOk Try.prog tab 22 ⟨(.list (.list I)), 0, 24, false⟩ := ti_list (ie := ⟨(.list I), 0, 8, false⟩) (by kernel_rfl) Try.underlying22 (by kernel_rfl) rfl (by kernel_rfl) (by kernel_rfl)
theorem ti23 : TiOk Try.prog tab 23 ⟨(.list (.prod I I)), 0, 16, false⟩ := ti_list (ie := ⟨(.prod I I), 2, 16, true⟩) (by kernel_rfl) Try.underlying23 (by kernel_rfl) rfl (by kernel_rfl) (by kernel_rfl)
theorem ti25 : TiOk Try.prog tab 25 ⟨(.prod (.list (.list I)) (.list (.prod I I))), 2, 48, false⟩ := ti_struct (by kernel_rfl) Try.underlying25 (by kernel_rfl) (by kernel_rfl) (by kernel_rfl) (by kernel_rfl)
theorem ti26 : TiOk Try.prog tab 26 ⟨(.list I), 0, 8, false⟩ := ti_list (ie := ⟨I, 0, 8, false⟩) (by kernel_rfl) Try.underlying26 (by kernel_rfl) rfl (by kernel_rfl) (by kernel_rfl)
theorem ti30 : TiOk Try.prog tab 30 ⟨(.prod (.list (.list I)) (.list (.prod I I))), 2, 48, false⟩ := ti_struct (by kernel_rfl) Try.underlying30 (by kernel_rfl) (by kernel_rfl) (by kernel_rfl) (by kernel_rfl)
theorem ti71 : TiOk Try.prog tab 71 ⟨(.prod I I), 2, 16, true⟩ := ti_arr (ie := ⟨I, 0, 8, false⟩) (by kernel_rfl) Try.underlying71 (by kernel_rfl) rfl (by kernel_rfl) (by kernel_rfl)
theorem ti72 : FnOk Try.prog 72 := ti_fn (by kernel_rfl) (Try.underlying72)
theorem ti79 : FnOk Try.prog 79 := ti_fn (by kernel_rfl) (Try.underlying79)
theorem ti90 : TiOk Try.prog tab 90 ⟨(.list I), 0, 8, false⟩ := ti_list (ie := ⟨I, 0, 8, false⟩) (by kernel_rfl) Try.underlying90 (by kernel_rfl) rfl (by kernel_rfl) (by kernel_rfl)
theorem ti125 : TiOk Try.prog tab 125 ⟨(.int .u64), 0, 8, false⟩ := ti_int (by kernel_rfl) Try.underlying125
theorem tabOk : TabOk' Try.prog tab := tabOk_of ⟨ti3, ti4, ti22, ti23, ti25, ti26, ti30, ti71, ti72, ti79, ti90, ti125, trivial⟩
/-! loop.example/g01128/laws.szIntS -/
abbrev laws_szIntS_E : Ve.End := ⟨[⟨4, .shr, I, none⟩], []⟩
abbrev laws_szIntS_a : List ASh := [.val (.list I), .val I]
abbrev laws_szIntS_o : List OSh := []
noncomputable def laws_szIntS : argP laws_szIntS_a → obP (extObs 0 laws_szIntS_o) → Option laws_szIntS_E.P
  | (a, left, ()), () => bif (decide ((w64 (left - (List.length a : Int))) < (0 : Int))) then (some (((-1 : Int), ()), ())) else (some (((w64 (left - (List.length a : Int))), ()), ()))
noncomputable def laws_szIntS_x : Cx := ⟨tab, noEnv, fun _ _ => 0, fun _ => false, [], []⟩
noncomputable def c59 : Code := bodyOf Try.f59
noncomputable def laws_szIntS_A : Ann := .nil
noncomputable def laws_szIntS_D : Ve.Fn := ⟨59, laws_szIntS_a, laws_szIntS_o, laws_szIntS_E, laws_szIntS⟩
theorem laws_szIntS_w : Walk Try.prog laws_szIntS_x laws_szIntS_D Try.f59 c59 12 laws_szIntS_A :=
  ⟨⟨Try.func59, by kernel_rfl, by kernel_rfl, by kernel_rfl, by decide, by kernel_rfl, Nat.le_of_ble_eq_true (by kernel_rfl)⟩, by kernel_rfl, by kernel_rfl, by kernel_rfl, kcast (by kernel_rfl) trivial, by kernel_rfl, fun x y => by kernel_rfl⟩
theorem laws_szIntS_s : laws_szIntS_D.Says Try.prog := laws_szIntS_w.says follows tabOk noEnv_ok
noncomputable def laws_szIntS_e : Env := more noEnv laws_szIntS_D
theorem laws_szIntS_e_ok : EnvOk Try.prog laws_szIntS_e := more_ok noEnv_ok laws_szIntS_s
/-! loop.example/g01128/laws.szIntSS -/
abbrev laws_szIntSS_J0 : Tpl := ⟨[(0, .val (.list (.list I))), (1, .val I), (5, .val I)], [], []⟩
abbrev laws_szIntSS_J1 : Tpl := ⟨[(4, .val I)], [], []⟩
abbrev laws_szIntSS_J2 : Tpl := ⟨[(1, .val I)], [], []⟩
abbrev laws_szIntSS_E : Ve.End := ⟨[⟨4, .shr, I, none⟩], []⟩
abbrev laws_szIntSS_a : List ASh := [.val (.list (.list I)), .val I]
abbrev laws_szIntSS_o : List OSh := []
abbrev laws_szIntSS_O0 : Out := .or .ret laws_szIntSS_J1 (.one (.ex 0) laws_szIntSS_J2)
noncomputable def laws_szIntSS_B0 : laws_szIntSS_J0.P → Option (laws_szIntSS_J0.P ⊕ laws_szIntSS_O0.P)
  | ((a, left, i, ()), ()) => bif (decide (i < (List.length a : Int))) then (guardB (inb i (List.length a)) (match laws_szIntS ((List.getD a (Int.toNat i) ([] : (List Int))), left, ()) () with | some ((r, ()), ()) => (bif (decide (r < (0 : Int))) then (some (.inr (.inl (((-1 : Int), ()), ())))) else (some (.inl ((a, r, (w64 (i + (1 : Int))), ()), ())))) | none => none)) else (some (.inr (.inr ((left, ()), ()))))
noncomputable def laws_szIntSS : argP laws_szIntSS_a → obP (extObs 0 laws_szIntSS_o) → Option laws_szIntSS_E.P
  | (a, left, ()), () => bif (decide ((w64 (left - (List.length a : Int))) < (0 : Int))) then (some (((-1 : Int), ()), ())) else (match loopO laws_szIntSS_B0 ((a, (w64 (left - (List.length a : Int))), (0 : Int), ()), ()) with | some (.inl ((t4, ()), ())) => some ((t4, ()), ()) | some (.inr ((left2, ()), ())) => some ((left2, ()), ()) | none => none)
noncomputable def laws_szIntSS_x : Cx := ⟨tab, laws_szIntS_e, fun _ _ => 0, fun _ => false, [(23, 0), (23, 1), (23, 2), (23, 3)], []⟩
noncomputable def c22 : Code := bodyOf Try.f22
noncomputable def laws_szIntSS_A : Ann := .seq .nil (.seq .nil (.seq .nil (.seq (.seq .nil (.loop laws_szIntSS_J0 laws_szIntSS_O0 laws_szIntSS_B0 .nil)) .nil)))
theorem laws_szIntSS_r0 (p : laws_szIntSS_J0.P) : run laws_szIntSS_x (subc [1, 1, 1, 0, 1, 0, 0] c22) .nil (laws_szIntSS_J0.S p) (leaf laws_szIntSS_J0 laws_szIntSS_O0) = laws_szIntSS_B0 p := by kernel_rfl
noncomputable def laws_szIntSS_D : Ve.Fn := ⟨22, laws_szIntSS_a, laws_szIntSS_o, laws_szIntSS_E, laws_szIntSS⟩
theorem laws_szIntSS_w : Walk Try.prog laws_szIntSS_x laws_szIntSS_D Try.f22 c22 27 laws_szIntSS_A :=
  ⟨⟨Try.func22, by kernel_rfl, by kernel_rfl, by kernel_rfl, by decide, by kernel_rfl, Nat.le_of_ble_eq_true (by kernel_rfl)⟩, by kernel_rfl, by kernel_rfl, by kernel_rfl, kcast (by kernel_rfl) (⟨laws_szIntSS_r0, trivial⟩ : (∀ p, run laws_szIntSS_x (subc [1, 1, 1, 0, 1, 0, 0] c22) .nil (laws_szIntSS_J0.S p) (leaf laws_szIntSS_J0 laws_szIntSS_O0) = laws_szIntSS_B0 p) ∧ True), by kernel_rfl, fun x y => by kernel_rfl⟩
theorem laws_szIntSS_s : laws_szIntSS_D.Says Try.prog := laws_szIntSS_w.says follows tabOk laws_szIntS_e_ok
noncomputable def laws_szIntSS_e : Env := more laws_szIntS_e laws_szIntSS_D
theorem laws_szIntSS_e_ok : EnvOk Try.prog laws_szIntSS_e := more_ok laws_szIntS_e_ok laws_szIntSS_s
/-! loop.example/g01128/laws.szIntA2S -/
abbrev laws_szIntA2S_E : Ve.End := ⟨[⟨4, .shr, I, none⟩], []⟩
abbrev laws_szIntA2S_a : List ASh := [.val (.list (.prod I I)), .val I]
abbrev laws_szIntA2S_o : List OSh := []
noncomputable def laws_szIntA2S : argP laws_szIntA2S_a → obP (extObs 0 laws_szIntA2S_o) → Option laws_szIntA2S_E.P
  | (a, left, ()), () => bif (decide ((w64 (left - (List.length a : Int))) < (0 : Int))) then (some (((-1 : Int), ()), ())) else (some (((w64 (left - (List.length a : Int))), ()), ()))
noncomputable def laws_szIntA2S_x : Cx := ⟨tab, laws_szIntSS_e, fun _ _ => 0, fun _ => false, [], []⟩
noncomputable def c52 : Code := bodyOf Try.f52
noncomputable def laws_szIntA2S_A : Ann := .nil
noncomputable def laws_szIntA2S_D : Ve.Fn := ⟨52, laws_szIntA2S_a, laws_szIntA2S_o, laws_szIntA2S_E, laws_szIntA2S⟩
theorem laws_szIntA2S_w : Walk Try.prog laws_szIntA2S_x laws_szIntA2S_D Try.f52 c52 12 laws_szIntA2S_A :=
  ⟨⟨Try.func52, by kernel_rfl, by kernel_rfl, by kernel_rfl, by decide, by kernel_rfl, Nat.le_of_ble_eq_true (by kernel_rfl)⟩, by kernel_rfl, by kernel_rfl, by kernel_rfl, kcast (by kernel_rfl) trivial, by kernel_rfl, fun x y => by kernel_rfl⟩
theorem laws_szIntA2S_s : laws_szIntA2S_D.Says Try.prog := laws_szIntA2S_w.says follows tabOk laws_szIntSS_e_ok
noncomputable def laws_szIntA2S_e : Env := more laws_szIntSS_e laws_szIntA2S_D
theorem laws_szIntA2S_e_ok : EnvOk Try.prog laws_szIntA2S_e := more_ok laws_szIntSS_e_ok laws_szIntA2S_s
/-! loop.example/g01128/laws.szSpace -/
abbrev laws_szSpace_E : Ve.End := ⟨[⟨4, .shr, I, none⟩], []⟩
abbrev laws_szSpace_a : List ASh := [.val (.prod (.list (.list I)) (.list (.prod I I))), .val I]
abbrev laws_szSpace_o : List OSh := []
noncomputable def laws_szSpace : argP laws_szSpace_a → obP (extObs 0 laws_szSpace_o) → Option laws_szSpace_E.P
  | (a, left, ()), () => match laws_szIntSS (a.1, left, ()) () with | some ((r, ()), ()) => (bif (decide (r < (0 : Int))) then (some (((-1 : Int), ()), ())) else (match laws_szIntA2S (a.2, r, ()) () with | some ((r2, ()), ()) => (bif (decide (r2 < (0 : Int))) then (some (((-1 : Int), ()), ())) else (some ((r2, ()), ()))) | none => none)) | none => none
noncomputable def laws_szSpace_x : Cx := ⟨tab, laws_szIntA2S_e, fun _ _ => 0, fun _ => false, [(8, 0), (8, 1), (8, 2), (8, 3), (14, 0), (14, 1), (14, 2), (14, 3)], [(2, 0)]⟩
noncomputable def c15 : Code := bodyOf Try.f15
noncomputable def laws_szSpace_A : Ann := .nil
noncomputable def laws_szSpace_D : Ve.Fn := ⟨15, laws_szSpace_a, laws_szSpace_o, laws_szSpace_E, laws_szSpace⟩
theorem laws_szSpace_w : Walk Try.prog laws_szSpace_x laws_szSpace_D Try.f15 c15 18 laws_szSpace_A :=
  ⟨⟨Try.func15, by kernel_rfl, by kernel_rfl, by kernel_rfl, by decide, by kernel_rfl, Nat.le_of_ble_eq_true (by kernel_rfl)⟩, by kernel_rfl, by kernel_rfl, by kernel_rfl, kcast (by kernel_rfl) trivial, by kernel_rfl, fun x y => by kernel_rfl⟩
theorem laws_szSpace_s : laws_szSpace_D.Says Try.prog := laws_szSpace_w.says follows tabOk laws_szIntA2S_e_ok
noncomputable def laws_szSpace_e : Env := more laws_szIntA2S_e laws_szSpace_D
theorem laws_szSpace_e_ok : EnvOk Try.prog laws_szSpace_e := more_ok laws_szIntA2S_e_ok laws_szSpace_s
/-! loop.example/g01128/laws.toIntS -/
abbrev laws_toIntS_J0 : Tpl := ⟨[(0, .val (.list I)), (3, .own .shr I), (4, .val I)], [], []⟩
abbrev laws_toIntS_J1 : Tpl := ⟨[(3, .own .shr I)], [], []⟩
abbrev laws_toIntS_E : Ve.End := ⟨[⟨2, (.own .shr), (.list I), none⟩], []⟩
abbrev laws_toIntS_a : List ASh := [.val (.list I)]
abbrev laws_toIntS_o : List OSh := []
abbrev laws_toIntS_O0 : Out := .one (.ex 0) laws_toIntS_J1
noncomputable def laws_toIntS_B0 : laws_toIntS_J0.P → Option (laws_toIntS_J0.P ⊕ laws_toIntS_O0.P)
  | ((a, out, i, ()), ()) => bif (decide (i < (List.length a : Int))) then (guardB (inb i (List.length a)) (guardB (inb i (List.length out)) (some (.inl ((a, (List.set out (Int.toNat i) (List.getD a (Int.toNat i) (0 : Int))), (w64 (i + (1 : Int))), ()), ()))))) else (some (.inr ((out, ()), ())))
noncomputable def laws_toIntS : argP laws_toIntS_a → obP (extObs 0 laws_toIntS_o) → Option laws_toIntS_E.P
  | (a, ()), () => guardB (decide (0 ≤ (List.length a : Int)) && decide ((List.length a : Int) ≤ (List.length a : Int)) && decide ((List.length a : Int) * 8 ≤ 140737488355328)) (match loopO laws_toIntS_B0 ((a, (List.replicate (Int.toNat (List.length a : Int)) (0 : Int)), (0 : Int), ()), ()) with | some ((out, ()), ()) => some ((out, ()), ()) | none => none)
noncomputable def laws_toIntS_x : Cx := ⟨tab, laws_szSpace_e, fun _ _ => 0, fun _ => false, [], []⟩
noncomputable def c18 : Code := bodyOf Try.f18
noncomputable def laws_toIntS_A : Ann := .seq .nil (.seq .nil (.seq (.seq .nil (.loop laws_toIntS_J0 laws_toIntS_O0 laws_toIntS_B0 .nil)) .nil))
theorem laws_toIntS_r0 (p : laws_toIntS_J0.P) : run laws_toIntS_x (subc [1, 1, 0, 1, 0, 0] c18) .nil (laws_toIntS_J0.S p) (leaf laws_toIntS_J0 laws_toIntS_O0) = laws_toIntS_B0 p := by kernel_rfl
noncomputable def laws_toIntS_D : Ve.Fn := ⟨18, laws_toIntS_a, laws_toIntS_o, laws_toIntS_E, laws_toIntS⟩
theorem laws_toIntS_w : Walk Try.prog laws_toIntS_x laws_toIntS_D Try.f18 c18 22 laws_toIntS_A :=
  ⟨⟨Try.func18, by kernel_rfl, by kernel_rfl, by kernel_rfl, by decide, by kernel_rfl, Nat.le_of_ble_eq_true (by kernel_rfl)⟩, by kernel_rfl, by kernel_rfl, by kernel_rfl, kcast (by kernel_rfl) (⟨laws_toIntS_r0, trivial⟩ : (∀ p, run laws_toIntS_x (subc [1, 1, 0, 1, 0, 0] c18) .nil (laws_toIntS_J0.S p) (leaf laws_toIntS_J0 laws_toIntS_O0) = laws_toIntS_B0 p) ∧ True), by kernel_rfl, fun x y => by kernel_rfl⟩
theorem laws_toIntS_s : laws_toIntS_D.Says Try.prog := laws_toIntS_w.says follows tabOk laws_szSpace_e_ok
noncomputable def laws_toIntS_e : Env := more laws_szSpace_e laws_toIntS_D
theorem laws_toIntS_e_ok : EnvOk Try.prog laws_toIntS_e := more_ok laws_szSpace_e_ok laws_toIntS_s
/-! loop.example/g01128/laws.toIntSS -/
abbrev laws_toIntSS_J0 : Tpl := ⟨[(0, .val (.list (.list I))), (3, .own (.own .shr) (.list I)), (4, .val I)], [], []⟩
abbrev laws_toIntSS_J1 : Tpl := ⟨[(3, .own (.own .shr) (.list I))], [], []⟩
abbrev laws_toIntSS_E : Ve.End := ⟨[⟨2, (.own (.own .shr)), (.list (.list I)), none⟩], []⟩
abbrev laws_toIntSS_a : List ASh := [.val (.list (.list I))]
abbrev laws_toIntSS_o : List OSh := []
abbrev laws_toIntSS_O0 : Out := .one (.ex 0) laws_toIntSS_J1
noncomputable def laws_toIntSS_B0 : laws_toIntSS_J0.P → Option (laws_toIntSS_J0.P ⊕ laws_toIntSS_O0.P)
  | ((a, out, i, ()), ()) => bif (decide (i < (List.length a : Int))) then (guardB (inb i (List.length a)) (match laws_toIntS ((List.getD a (Int.toNat i) ([] : (List Int))), ()) () with | some ((r, ()), ()) => guardB (inb i (List.length out)) (some (.inl ((a, (List.set out (Int.toNat i) r), (w64 (i + (1 : Int))), ()), ()))) | none => none)) else (some (.inr ((out, ()), ())))
noncomputable def laws_toIntSS : argP laws_toIntSS_a → obP (extObs 0 laws_toIntSS_o) → Option laws_toIntSS_E.P
  | (a, ()), () => guardB (decide (0 ≤ (List.length a : Int)) && decide ((List.length a : Int) ≤ (List.length a : Int)) && decide ((List.length a : Int) * 24 ≤ 140737488355328)) (match loopO laws_toIntSS_B0 ((a, (List.replicate (Int.toNat (List.length a : Int)) ([] : (List Int))), (0 : Int), ()), ()) with | some ((out, ()), ()) => some ((out, ()), ()) | none => none)
noncomputable def laws_toIntSS_x : Cx := ⟨tab, laws_toIntS_e, fun _ _ => 0, fun _ => false, [], []⟩
noncomputable def c24 : Code := bodyOf Try.f24
noncomputable def laws_toIntSS_A : Ann := .seq .nil (.seq .nil (.seq (.seq .nil (.loop laws_toIntSS_J0 laws_toIntSS_O0 laws_toIntSS_B0 .nil)) .nil))
theorem laws_toIntSS_r0 (p : laws_toIntSS_J0.P) : run laws_toIntSS_x (subc [1, 1, 0, 1, 0, 0] c24) .nil (laws_toIntSS_J0.S p) (leaf laws_toIntSS_J0 laws_toIntSS_O0) = laws_toIntSS_B0 p := by kernel_rfl
noncomputable def laws_toIntSS_D : Ve.Fn := ⟨24, laws_toIntSS_a, laws_toIntSS_o, laws_toIntSS_E, laws_toIntSS⟩
theorem laws_toIntSS_w : Walk Try.prog laws_toIntSS_x laws_toIntSS_D Try.f24 c24 23 laws_toIntSS_A :=
  ⟨⟨Try.func24, by kernel_rfl, by kernel_rfl, by kernel_rfl, by decide, by kernel_rfl, Nat.le_of_ble_eq_true (by kernel_rfl)⟩, by kernel_rfl, by kernel_rfl, by kernel_rfl, kcast (by kernel_rfl) (⟨laws_toIntSS_r0, trivial⟩ : (∀ p, run laws_toIntSS_x (subc [1, 1, 0, 1, 0, 0] c24) .nil (laws_toIntSS_J0.S p) (leaf laws_toIntSS_J0 laws_toIntSS_O0) = laws_toIntSS_B0 p) ∧ True), by kernel_rfl, fun x y => by kernel_rfl⟩
theorem laws_toIntSS_s : laws_toIntSS_D.Says Try.prog := laws_toIntSS_w.says follows tabOk laws_toIntS_e_ok
noncomputable def laws_toIntSS_e : Env := more laws_toIntS_e laws_toIntSS_D
theorem laws_toIntSS_e_ok : EnvOk Try.prog laws_toIntSS_e := more_ok laws_toIntS_e_ok laws_toIntSS_s
/-! loop.example/g01128/laws.toIntA2 -/
abbrev laws_toIntA2_J0 : Tpl := ⟨[(1, .cst (.prod I I)), (2, .ptr (2, 0)), (3, .ptr (3, 0)), (4, .val I)], [((2, 0), .box .shr (.prod I I)), ((3, 0), .box .shr (.prod I I))], []⟩
abbrev laws_toIntA2_J1 : Tpl := ⟨[(2, .ptr (2, 0)), (3, .ptr (3, 0))], [((2, 0), .box .shr (.prod I I)), ((3, 0), .box .shr (.prod I I))], []⟩
abbrev laws_toIntA2_E : Ve.End := ⟨[⟨2, .shr, (.prod I I), some 71⟩], []⟩
abbrev laws_toIntA2_a : List ASh := [.val (.prod I I)]
abbrev laws_toIntA2_o : List OSh := []
abbrev laws_toIntA2_O0 : Out := .one (.ex 0) laws_toIntA2_J1
noncomputable def laws_toIntA2_B0 : laws_toIntA2_J0.P → Option (laws_toIntA2_J0.P ⊕ laws_toIntA2_O0.P)
  | ((a, i, ()), (t2, out, ())) => bif (decide (i < (2 : Int))) then (guardB (decide (0 ≤ i) && decide (i < 2)) (guardB (decide (0 ≤ i) && decide (i < 2)) (some (.inl ((a, (w64 (i + (1 : Int))), ()), (t2, (bif Nat.beq (Int.toNat i) 0 then ((bif Nat.beq (Int.toNat i) 0 then a.1 else a.2), out.2) else (out.1, (bif Nat.beq (Int.toNat i) 0 then a.1 else a.2))), ())))))) else (some (.inr ((), (t2, out, ()))))
noncomputable def laws_toIntA2 : argP laws_toIntA2_a → obP (extObs 0 laws_toIntA2_o) → Option laws_toIntA2_E.P
  | (a, ()), () => match loopO laws_toIntA2_B0 ((a, (0 : Int), ()), (((0 : Int), (0 : Int)), ((0 : Int), (0 : Int)), ())) with | some ((), (t2, out, ())) => some ((out, ()), ()) | none => none
noncomputable def laws_toIntA2_x : Cx := ⟨tab, laws_toIntSS_e, fun _ _ => 0, fun _ => false, [], [(1, 0)]⟩
noncomputable def c115 : Code := bodyOf Try.f115
noncomputable def laws_toIntA2_A : Ann := .seq .nil (.seq .nil (.seq (.seq .nil (.loop laws_toIntA2_J0 laws_toIntA2_O0 laws_toIntA2_B0 .nil)) .nil))
theorem laws_toIntA2_r0 (p : laws_toIntA2_J0.P) : run laws_toIntA2_x (subc [1, 1, 0, 1, 0, 0] c115) .nil (laws_toIntA2_J0.S p) (leaf laws_toIntA2_J0 laws_toIntA2_O0) = laws_toIntA2_B0 p := by kernel_rfl
noncomputable def laws_toIntA2_D : Ve.Fn := ⟨115, laws_toIntA2_a, laws_toIntA2_o, laws_toIntA2_E, laws_toIntA2⟩
theorem laws_toIntA2_w : Walk Try.prog laws_toIntA2_x laws_toIntA2_D Try.f115 c115 15 laws_toIntA2_A :=
  ⟨⟨Try.func115, by kernel_rfl, by kernel_rfl, by kernel_rfl, by decide, by kernel_rfl, Nat.le_of_ble_eq_true (by kernel_rfl)⟩, by kernel_rfl, by kernel_rfl, by kernel_rfl, kcast (by kernel_rfl) (⟨laws_toIntA2_r0, trivial⟩ : (∀ p, run laws_toIntA2_x (subc [1, 1, 0, 1, 0, 0] c115) .nil (laws_toIntA2_J0.S p) (leaf laws_toIntA2_J0 laws_toIntA2_O0) = laws_toIntA2_B0 p) ∧ True), by kernel_rfl, fun x y => by kernel_rfl⟩
theorem laws_toIntA2_s : laws_toIntA2_D.Says Try.prog := laws_toIntA2_w.says follows tabOk laws_toIntSS_e_ok
noncomputable def laws_toIntA2_e : Env := more laws_toIntSS_e laws_toIntA2_D
theorem laws_toIntA2_e_ok : EnvOk Try.prog laws_toIntA2_e := more_ok laws_toIntSS_e_ok laws_toIntA2_s
/-! loop.example/g01128/laws.toIntA2S -/
abbrev laws_toIntA2S_J0 : Tpl := ⟨[(0, .val (.list (.prod I I))), (3, .own .shr (.prod I I)), (4, .val I)], [], []⟩
abbrev laws_toIntA2S_J1 : Tpl := ⟨[(3, .own .shr (.prod I I))], [], []⟩
abbrev laws_toIntA2S_E : Ve.End := ⟨[⟨2, (.own .shr), (.list (.prod I I)), none⟩], []⟩
abbrev laws_toIntA2S_a : List ASh := [.val (.list (.prod I I))]
abbrev laws_toIntA2S_o : List OSh := []
abbrev laws_toIntA2S_O0 : Out := .one (.ex 0) laws_toIntA2S_J1
noncomputable def laws_toIntA2S_B0 : laws_toIntA2S_J0.P → Option (laws_toIntA2S_J0.P ⊕ laws_toIntA2S_O0.P)
  | ((a, out, i, ()), ()) => bif (decide (i < (List.length a : Int))) then (guardB (inb i (List.length a)) (match laws_toIntA2 ((List.getD a (Int.toNat i) ((0 : Int), (0 : Int))), ()) () with | some ((r, ()), ()) => guardB (inb i (List.length out)) (some (.inl ((a, (List.set out (Int.toNat i) r), (w64 (i + (1 : Int))), ()), ()))) | none => none)) else (some (.inr ((out, ()), ())))
noncomputable def laws_toIntA2S : argP laws_toIntA2S_a → obP (extObs 0 laws_toIntA2S_o) → Option laws_toIntA2S_E.P
  | (a, ()), () => guardB (decide (0 ≤ (List.length a : Int)) && decide ((List.length a : Int) ≤ (List.length a : Int)) && decide ((List.length a : Int) * 16 ≤ 140737488355328)) (match loopO laws_toIntA2S_B0 ((a, (List.replicate (Int.toNat (List.length a : Int)) ((0 : Int), (0 : Int))), (0 : Int), ()), ()) with | some ((out, ()), ()) => some ((out, ()), ()) | none => none)
noncomputable def laws_toIntA2S_x : Cx := ⟨tab, laws_toIntA2_e, fun _ _ => 0, fun _ => false, [(20, 0), (20, 1), (20, 2), (20, 3)], []⟩
noncomputable def c55 : Code := bodyOf Try.f55
noncomputable def laws_toIntA2S_A : Ann := .seq .nil (.seq .nil (.seq (.seq .nil (.loop laws_toIntA2S_J0 laws_toIntA2S_O0 laws_toIntA2S_B0 .nil)) .nil))
theorem laws_toIntA2S_r0 (p : laws_toIntA2S_J0.P) : run laws_toIntA2S_x (subc [1, 1, 0, 1, 0, 0] c55) .nil (laws_toIntA2S_J0.S p) (leaf laws_toIntA2S_J0 laws_toIntA2S_O0) = laws_toIntA2S_B0 p := by kernel_rfl
noncomputable def laws_toIntA2S_D : Ve.Fn := ⟨55, laws_toIntA2S_a, laws_toIntA2S_o, laws_toIntA2S_E, laws_toIntA2S⟩
theorem laws_toIntA2S_w : Walk Try.prog laws_toIntA2S_x laws_toIntA2S_D Try.f55 c55 23 laws_toIntA2S_A :=
  ⟨⟨Try.func55, by kernel_rfl, by kernel_rfl, by kernel_rfl, by decide, by kernel_rfl, Nat.le_of_ble_eq_true (by kernel_rfl)⟩, by kernel_rfl, by kernel_rfl, by kernel_rfl, kcast (by kernel_rfl) (⟨laws_toIntA2S_r0, trivial⟩ : (∀ p, run laws_toIntA2S_x (subc [1, 1, 0, 1, 0, 0] c55) .nil (laws_toIntA2S_J0.S p) (leaf laws_toIntA2S_J0 laws_toIntA2S_O0) = laws_toIntA2S_B0 p) ∧ True), by kernel_rfl, fun x y => by kernel_rfl⟩
theorem laws_toIntA2S_s : laws_toIntA2S_D.Says Try.prog := laws_toIntA2S_w.says follows tabOk laws_toIntA2_e_ok
noncomputable def laws_toIntA2S_e : Env := more laws_toIntA2_e laws_toIntA2S_D
theorem laws_toIntA2S_e_ok : EnvOk Try.prog laws_toIntA2S_e := more_ok laws_toIntA2_e_ok laws_toIntA2S_s
/-! loop.example/g01128/laws.toSpace -/
abbrev laws_toSpace_E : Ve.End := ⟨[⟨2, (.prod (.own (.own .shr)) (.own .shr)), (.prod (.list (.list I)) (.list (.prod I I))), some 30⟩], []⟩
abbrev laws_toSpace_a : List ASh := [.val (.prod (.list (.list I)) (.list (.prod I I)))]
abbrev laws_toSpace_o : List OSh := []
noncomputable def laws_toSpace : argP laws_toSpace_a → obP (extObs 0 laws_toSpace_o) → Option laws_toSpace_E.P
  | (a, ()), () => match laws_toIntSS (a.1, ()) () with | some ((r, ()), ()) => (match laws_toIntA2S (a.2, ()) () with | some ((r2, ()), ()) => some (((r, r2), ()), ()) | none => none) | none => none
noncomputable def laws_toSpace_x : Cx := ⟨tab, laws_toIntA2S_e, fun _ _ => 0, fun _ => false, [], [(1, 0)]⟩
noncomputable def c17 : Code := bodyOf Try.f17
noncomputable def laws_toSpace_A : Ann := .nil
noncomputable def laws_toSpace_D : Ve.Fn := ⟨17, laws_toSpace_a, laws_toSpace_o, laws_toSpace_E, laws_toSpace⟩
theorem laws_toSpace_w : Walk Try.prog laws_toSpace_x laws_toSpace_D Try.f17 c17 13 laws_toSpace_A :=
  ⟨⟨Try.func17, by kernel_rfl, by kernel_rfl, by kernel_rfl, by decide, by kernel_rfl, Nat.le_of_ble_eq_true (by kernel_rfl)⟩, by kernel_rfl, by kernel_rfl, by kernel_rfl, kcast (by kernel_rfl) trivial, by kernel_rfl, fun x y => by kernel_rfl⟩
theorem laws_toSpace_s : laws_toSpace_D.Says Try.prog := laws_toSpace_w.says follows tabOk laws_toIntA2S_e_ok
noncomputable def laws_toSpace_e : Env := more laws_toIntA2S_e laws_toSpace_D
theorem laws_toSpace_e_ok : EnvOk Try.prog laws_toSpace_e := more_ok laws_toIntA2S_e_ok laws_toSpace_s
/-! loop.example/g01128/spec.l1In -/
abbrev spec_l1In_E : Ve.End := ⟨[⟨6, .shr, .bool, none⟩], []⟩
abbrev spec_l1In_a : List ASh := [.val I, .val I, .val I]
abbrev spec_l1In_o : List OSh := []
noncomputable def spec_l1In : argP spec_l1In_a → obP (extObs 0 spec_l1In_o) → Option spec_l1In_E.P
  | (x, a, b, ()), () => bif (decide (a ≤ x)) then (some (((decide (x ≤ b)), ()), ())) else (some ((false, ()), ()))
noncomputable def spec_l1In_x : Cx := ⟨tab, laws_toSpace_e, fun _ _ => 0, fun _ => false, [], []⟩
noncomputable def c63 : Code := bodyOf Try.f63
noncomputable def spec_l1In_A : Ann := .nil
noncomputable def spec_l1In_D : Ve.Fn := ⟨63, spec_l1In_a, spec_l1In_o, spec_l1In_E, spec_l1In⟩
theorem spec_l1In_w : Walk Try.prog spec_l1In_x spec_l1In_D Try.f63 c63 15 spec_l1In_A :=
  ⟨⟨Try.func63, by kernel_rfl, by kernel_rfl, by kernel_rfl, by decide, by kernel_rfl, Nat.le_of_ble_eq_true (by kernel_rfl)⟩, by kernel_rfl, by kernel_rfl, by kernel_rfl, kcast (by kernel_rfl) trivial, by kernel_rfl, fun x y => by kernel_rfl⟩
theorem spec_l1In_s : spec_l1In_D.Says Try.prog := spec_l1In_w.says follows tabOk laws_toSpace_e_ok
noncomputable def spec_l1In_e : Env := more laws_toSpace_e spec_l1In_D
theorem spec_l1In_e_ok : EnvOk Try.prog spec_l1In_e := more_ok laws_toSpace_e_ok spec_l1In_s
/-! loop.example/g01128/spec.l2State -/
abbrev spec_l2State_J0 : Tpl := ⟨[(0, .val (.list I)), (3, .val I)], [], []⟩
abbrev spec_l2State_J1 : Tpl := ⟨[(2, .val .bool)], [], []⟩
abbrev spec_l2State_J2 : Tpl := ⟨[(0, .val (.list I))], [], []⟩
abbrev spec_l2State_E : Ve.End := ⟨[⟨2, .shr, .bool, none⟩], []⟩
abbrev spec_l2State_a : List ASh := [.val (.list I)]
abbrev spec_l2State_o : List OSh := []
abbrev spec_l2State_O0 : Out := .or .ret spec_l2State_J1 (.one (.ex 0) spec_l2State_J2)
noncomputable def spec_l2State_B0 : spec_l2State_J0.P → Option (spec_l2State_J0.P ⊕ spec_l2State_O0.P)
  | ((state, i, ()), ()) => bif (decide (i < (List.length state : Int))) then (guardB (inb i (List.length state)) (match spec_l1In ((List.getD state (Int.toNat i) (0 : Int)), (-99 : Int), (99 : Int), ()) () with | some ((r, ()), ()) => (bif (!r) then (some (.inr (.inl ((false, ()), ())))) else (some (.inl ((state, (w64 (i + (1 : Int))), ()), ())))) | none => none)) else (some (.inr (.inr ((state, ()), ()))))
noncomputable def spec_l2State : argP spec_l2State_a → obP (extObs 0 spec_l2State_o) → Option spec_l2State_E.P
  | (state, ()), () => match loopO spec_l2State_B0 ((state, (0 : Int), ()), ()) with | some (.inl ((t2, ()), ())) => some ((t2, ()), ()) | some (.inr ((state2, ()), ())) => some (((decide ((List.length state2 : Int) ≤ (24 : Int))), ()), ()) | none => none
noncomputable def spec_l2State_x : Cx := ⟨tab, spec_l1In_e, fun _ _ => 0, fun _ => false, [(14, 0), (14, 1), (14, 2), (14, 3)], []⟩
noncomputable def c112 : Code := bodyOf Try.f112
noncomputable def spec_l2State_A : Ann := .seq .nil (.seq (.seq .nil (.loop spec_l2State_J0 spec_l2State_O0 spec_l2State_B0 .nil)) .nil)
theorem spec_l2State_r0 (p : spec_l2State_J0.P) : run spec_l2State_x (subc [1, 0, 1, 0, 0] c112) .nil (spec_l2State_J0.S p) (leaf spec_l2State_J0 spec_l2State_O0) = spec_l2State_B0 p := by kernel_rfl
noncomputable def spec_l2State_D : Ve.Fn := ⟨112, spec_l2State_a, spec_l2State_o, spec_l2State_E, spec_l2State⟩
theorem spec_l2State_w : Walk Try.prog spec_l2State_x spec_l2State_D Try.f112 c112 19 spec_l2State_A :=
  ⟨⟨Try.func112, by kernel_rfl, by kernel_rfl, by kernel_rfl, by decide, by kernel_rfl, Nat.le_of_ble_eq_true (by kernel_rfl)⟩, by kernel_rfl, by kernel_rfl, by kernel_rfl, kcast (by kernel_rfl) (⟨spec_l2State_r0, trivial⟩ : (∀ p, run spec_l2State_x (subc [1, 0, 1, 0, 0] c112) .nil (spec_l2State_J0.S p) (leaf spec_l2State_J0 spec_l2State_O0) = spec_l2State_B0 p) ∧ True), by kernel_rfl, fun x y => by kernel_rfl⟩
theorem spec_l2State_s : spec_l2State_D.Says Try.prog := spec_l2State_w.says follows tabOk spec_l1In_e_ok
noncomputable def spec_l2State_e : Env := more spec_l1In_e spec_l2State_D
theorem spec_l2State_e_ok : EnvOk Try.prog spec_l2State_e := more_ok spec_l1In_e_ok spec_l2State_s
/-! loop.example/g01128/spec.l2Before -/
abbrev spec_l2Before_J0 : Tpl := ⟨[(0, .val (.list I)), (1, .val (.list I)), (5, .val I)], [], []⟩
abbrev spec_l2Before_J1 : Tpl := ⟨[(4, .val .bool)], [], []⟩
abbrev spec_l2Before_J2 : Tpl := ⟨[(0, .val (.list I)), (1, .val (.list I))], [], []⟩
abbrev spec_l2Before_E : Ve.End := ⟨[⟨4, .shr, .bool, none⟩], []⟩
abbrev spec_l2Before_a : List ASh := [.val (.list I), .val (.list I)]
abbrev spec_l2Before_o : List OSh := []
abbrev spec_l2Before_O0 : Out := .or .ret spec_l2Before_J1 (.one (.ex 0) spec_l2Before_J2)
noncomputable def spec_l2Before_B0 : spec_l2Before_J0.P → Option (spec_l2Before_J0.P ⊕ spec_l2Before_O0.P)
  | ((a, b, i, ()), ()) => bif (decide (i < (List.length a : Int))) then (bif (decide (i < (List.length b : Int))) then (guardB (inb i (List.length a)) (guardB (inb i (List.length b)) (bif ((List.getD a (Int.toNat i) (0 : Int)) != (List.getD b (Int.toNat i) (0 : Int))) then (guardB (inb i (List.length a)) (guardB (inb i (List.length b)) (some (.inr (.inl (((decide ((List.getD a (Int.toNat i) (0 : Int)) < (List.getD b (Int.toNat i) (0 : Int)))), ()), ())))))) else (some (.inl ((a, b, (w64 (i + (1 : Int))), ()), ())))))) else (some (.inr (.inr ((a, b, ()), ()))))) else (some (.inr (.inr ((a, b, ()), ()))))
noncomputable def spec_l2Before : argP spec_l2Before_a → obP (extObs 0 spec_l2Before_o) → Option spec_l2Before_E.P
  | (a, b, ()), () => match loopO spec_l2Before_B0 ((a, b, (0 : Int), ()), ()) with | some (.inl ((t4, ()), ())) => some ((t4, ()), ()) | some (.inr ((a2, b2, ()), ())) => some (((decide ((List.length a2 : Int) < (List.length b2 : Int))), ()), ()) | none => none
noncomputable def spec_l2Before_x : Cx := ⟨tab, spec_l2State_e, fun _ _ => 0, fun _ => false, [], []⟩
noncomputable def c113 : Code := bodyOf Try.f113
noncomputable def spec_l2Before_A : Ann := .seq .nil (.seq (.seq .nil (.loop spec_l2Before_J0 spec_l2Before_O0 spec_l2Before_B0 (.seq .nil (.seq (.seq (.draw [(0, .flo), (1, .flo), (2, .flo), (3, .flo), (4, .flo), (5, .flo), (6, .flo), (7, .flo), (8, .flo)]) (.seq (.seq (.draw [(0, .flo), (1, .flo), (2, .flo), (3, .flo), (4, .flo), (5, .flo), (6, .flo), (7, .flo), (8, .flo), (9, .flo)]) .nil) .nil)) .nil)))) .nil)
theorem spec_l2Before_r0 (p : spec_l2Before_J0.P) : run spec_l2Before_x (subc [1, 0, 1, 0, 0] c113) (.seq .nil (.seq (.seq (.draw [(0, .flo), (1, .flo), (2, .flo), (3, .flo), (4, .flo), (5, .flo), (6, .flo), (7, .flo), (8, .flo)]) (.seq (.seq (.draw [(0, .flo), (1, .flo), (2, .flo), (3, .flo), (4, .flo), (5, .flo), (6, .flo), (7, .flo), (8, .flo), (9, .flo)]) .nil) .nil)) .nil)) (spec_l2Before_J0.S p) (leaf spec_l2Before_J0 spec_l2Before_O0) = spec_l2Before_B0 p := by kernel_rfl
noncomputable def spec_l2Before_D : Ve.Fn := ⟨113, spec_l2Before_a, spec_l2Before_o, spec_l2Before_E, spec_l2Before⟩
theorem spec_l2Before_w : Walk Try.prog spec_l2Before_x spec_l2Before_D Try.f113 c113 41 spec_l2Before_A :=
  ⟨⟨Try.func113, by kernel_rfl, by kernel_rfl, by kernel_rfl, by decide, by kernel_rfl, Nat.le_of_ble_eq_true (by kernel_rfl)⟩, by kernel_rfl, by kernel_rfl, by kernel_rfl, kcast (by kernel_rfl) (⟨spec_l2Before_r0, trivial⟩ : (∀ p, run spec_l2Before_x (subc [1, 0, 1, 0, 0] c113) (.seq .nil (.seq (.seq (.draw [(0, .flo), (1, .flo), (2, .flo), (3, .flo), (4, .flo), (5, .flo), (6, .flo), (7, .flo), (8, .flo)]) (.seq (.seq (.draw [(0, .flo), (1, .flo), (2, .flo), (3, .flo), (4, .flo), (5, .flo), (6, .flo), (7, .flo), (8, .flo), (9, .flo)]) .nil) .nil)) .nil)) (spec_l2Before_J0.S p) (leaf spec_l2Before_J0 spec_l2Before_O0) = spec_l2Before_B0 p) ∧ True), by kernel_rfl, fun x y => by kernel_rfl⟩
theorem spec_l2Before_s : spec_l2Before_D.Says Try.prog := spec_l2Before_w.says follows tabOk spec_l2State_e_ok
noncomputable def spec_l2Before_e : Env := more spec_l2State_e spec_l2Before_D
theorem spec_l2Before_e_ok : EnvOk Try.prog spec_l2Before_e := more_ok spec_l2State_e_ok spec_l2Before_s
/-! loop.example/g01128/spec.l2Edge -/
abbrev spec_l2Edge_E : Ve.End := ⟨[⟨4, .shr, .bool, none⟩], []⟩
abbrev spec_l2Edge_a : List ASh := [.val (.prod I I), .val (.prod I I)]
abbrev spec_l2Edge_o : List OSh := []
noncomputable def spec_l2Edge : argP spec_l2Edge_a → obP (extObs 0 spec_l2Edge_o) → Option spec_l2Edge_E.P
  | (a, b, ()), () => bif (decide (a.1 < b.1)) then (some ((true, ()), ())) else (bif (a.1 == b.1) then (some (((decide (a.2 < b.2)), ()), ())) else (some ((false, ()), ())))
noncomputable def spec_l2Edge_x : Cx := ⟨tab, spec_l2Before_e, fun _ _ => 0, fun _ => false, [], [(2, 0), (3, 0)]⟩
noncomputable def c128 : Code := bodyOf Try.f128
noncomputable def spec_l2Edge_A : Ann := .nil
noncomputable def spec_l2Edge_D : Ve.Fn := ⟨128, spec_l2Edge_a, spec_l2Edge_o, spec_l2Edge_E, spec_l2Edge⟩
theorem spec_l2Edge_w : Walk Try.prog spec_l2Edge_x spec_l2Edge_D Try.f128 c128 24 spec_l2Edge_A :=
  ⟨⟨Try.func128, by kernel_rfl, by kernel_rfl, by kernel_rfl, by decide, by kernel_rfl, Nat.le_of_ble_eq_true (by kernel_rfl)⟩, by kernel_rfl, by kernel_rfl, by kernel_rfl, kcast (by kernel_rfl) trivial, by kernel_rfl, fun x y => by kernel_rfl⟩
theorem spec_l2Edge_s : spec_l2Edge_D.Says Try.prog := spec_l2Edge_w.says follows tabOk spec_l2Before_e_ok
noncomputable def spec_l2Edge_e : Env := more spec_l2Before_e spec_l2Edge_D
theorem spec_l2Edge_e_ok : EnvOk Try.prog spec_l2Edge_e := more_ok spec_l2Before_e_ok spec_l2Edge_s
/-! loop.example/g01128/spec.l2Pairs -/
abbrev spec_l2Pairs_J0 : Tpl := ⟨[(0, .val (.list (.prod I I))), (1, .val I), (5, .val I)], [], []⟩
abbrev spec_l2Pairs_J1 : Tpl := ⟨[(4, .val .bool)], [], []⟩
abbrev spec_l2Pairs_J2 : Tpl := ⟨[], [], []⟩
abbrev spec_l2Pairs_E : Ve.End := ⟨[⟨4, .shr, .bool, none⟩], []⟩
abbrev spec_l2Pairs_a : List ASh := [.val (.list (.prod I I)), .val I]
abbrev spec_l2Pairs_o : List OSh := []
abbrev spec_l2Pairs_O0 : Out := .or .ret spec_l2Pairs_J1 (.one (.ex 0) spec_l2Pairs_J2)
noncomputable def spec_l2Pairs_B0 : spec_l2Pairs_J0.P → Option (spec_l2Pairs_J0.P ⊕ spec_l2Pairs_O0.P)
  | ((pairs, n, i, ()), ()) => bif (decide (i < (List.length pairs : Int))) then (guardB (inb i (List.length pairs)) (match spec_l1In ((List.getD pairs (Int.toNat i) ((0 : Int), (0 : Int))).1, (0 : Int), (w64 (n - (1 : Int))), ()) () with | some ((r, ()), ()) => (bif (!r) then (some (.inr (.inl ((false, ()), ())))) else (match spec_l1In ((List.getD pairs (Int.toNat i) ((0 : Int), (0 : Int))).2, (0 : Int), (w64 (n - (1 : Int))), ()) () with | some ((r2, ()), ()) => (bif (!r2) then (some (.inr (.inl ((false, ()), ())))) else (bif (decide (((List.getD pairs (Int.toNat i) ((0 : Int), (0 : Int))).2) ≤ ((List.getD pairs (Int.toNat i) ((0 : Int), (0 : Int))).1))) then (some (.inr (.inl ((false, ()), ())))) else (bif (decide ((0 : Int) < i)) then (guardB (inb (w64 (i - (1 : Int))) (List.length pairs)) (match spec_l2Edge ((List.getD pairs (Int.toNat (w64 (i - (1 : Int)))) ((0 : Int), (0 : Int))), (List.getD pairs (Int.toNat i) ((0 : Int), (0 : Int))), ()) () with | some ((r3, ()), ()) => (bif (!r3) then (some (.inr (.inl ((false, ()), ())))) else (some (.inl ((pairs, n, (w64 (i + (1 : Int))), ()), ())))) | none => none)) else (some (.inl ((pairs, n, (w64 (i + (1 : Int))), ()), ())))))) | none => none)) | none => none)) else (some (.inr (.inr ((), ()))))
noncomputable def spec_l2Pairs : argP spec_l2Pairs_a → obP (extObs 0 spec_l2Pairs_o) → Option spec_l2Pairs_E.P
  | (pairs, n, ()), () => match loopO spec_l2Pairs_B0 ((pairs, n, (0 : Int), ()), ()) with | some (.inl ((t4, ()), ())) => some ((t4, ()), ()) | some (.inr ((), ())) => some ((true, ()), ()) | none => none
noncomputable def spec_l2Pairs_x : Cx := ⟨tab, spec_l2Edge_e, fun _ _ => 0, fun _ => false, [(21, 0), (21, 1), (21, 2), (21, 3), (28, 0), (28, 1), (28, 2), (28, 3), (48, 0), (48, 1), (48, 2), (48, 3)], [(6, 0)]⟩
noncomputable def c114 : Code := bodyOf Try.f114
noncomputable def spec_l2Pairs_A : Ann := .seq .nil (.seq (.seq .nil (.loop spec_l2Pairs_J0 spec_l2Pairs_O0 spec_l2Pairs_B0 (.seq .nil (.seq (.seq .nil (.seq (.draw [(0, .flo), (1, .flo), (2, .flo), (3, .flo), (4, .sole), (5, .flo), (6, .flo), (7, .flo), (9, .flo), (10, .flo), (8, .qui), (11, .sole), (12, .flo), (13, .flo), (14, .flo), (15, .flo), (17, .flo), (16, .qui), (18, .qui), (19, .flo), (20, .flo), (21, .flo), (22, .flo), (23, .flo), (24, .flo), (25, .flo), (26, .flo), (27, .flo), (28, .flo), (29, .qui), (30, .qui), (31, .sole), (32, .flo), (33, .flo), (34, .flo)]) .nil)) .nil)))) .nil)
theorem spec_l2Pairs_r0 (p : spec_l2Pairs_J0.P) : run spec_l2Pairs_x (subc [1, 0, 1, 0, 0] c114) (.seq .nil (.seq (.seq .nil (.seq (.draw [(0, .flo), (1, .flo), (2, .flo), (3, .flo), (4, .sole), (5, .flo), (6, .flo), (7, .flo), (9, .flo), (10, .flo), (8, .qui), (11, .sole), (12, .flo), (13, .flo), (14, .flo), (15, .flo), (17, .flo), (16, .qui), (18, .qui), (19, .flo), (20, .flo), (21, .flo), (22, .flo), (23, .flo), (24, .flo), (25, .flo), (26, .flo), (27, .flo), (28, .flo), (29, .qui), (30, .qui), (31, .sole), (32, .flo), (33, .flo), (34, .flo)]) .nil)) .nil)) (spec_l2Pairs_J0.S p) (leaf spec_l2Pairs_J0 spec_l2Pairs_O0) = spec_l2Pairs_B0 p := by kernel_rfl
noncomputable def spec_l2Pairs_D : Ve.Fn := ⟨114, spec_l2Pairs_a, spec_l2Pairs_o, spec_l2Pairs_E, spec_l2Pairs⟩
theorem spec_l2Pairs_w : Walk Try.prog spec_l2Pairs_x spec_l2Pairs_D Try.f114 c114 52 spec_l2Pairs_A :=
  ⟨⟨Try.func114, by kernel_rfl, by kernel_rfl, by kernel_rfl, by decide, by kernel_rfl, Nat.le_of_ble_eq_true (by kernel_rfl)⟩, by kernel_rfl, by kernel_rfl, by kernel_rfl, kcast (by kernel_rfl) (⟨spec_l2Pairs_r0, trivial⟩ : (∀ p, run spec_l2Pairs_x (subc [1, 0, 1, 0, 0] c114) (.seq .nil (.seq (.seq .nil (.seq (.draw [(0, .flo), (1, .flo), (2, .flo), (3, .flo), (4, .sole), (5, .flo), (6, .flo), (7, .flo), (9, .flo), (10, .flo), (8, .qui), (11, .sole), (12, .flo), (13, .flo), (14, .flo), (15, .flo), (17, .flo), (16, .qui), (18, .qui), (19, .flo), (20, .flo), (21, .flo), (22, .flo), (23, .flo), (24, .flo), (25, .flo), (26, .flo), (27, .flo), (28, .flo), (29, .qui), (30, .qui), (31, .sole), (32, .flo), (33, .flo), (34, .flo)]) .nil)) .nil)) (spec_l2Pairs_J0.S p) (leaf spec_l2Pairs_J0 spec_l2Pairs_O0) = spec_l2Pairs_B0 p) ∧ True), by kernel_rfl, fun x y => by kernel_rfl⟩
theorem spec_l2Pairs_s : spec_l2Pairs_D.Says Try.prog := spec_l2Pairs_w.says follows tabOk spec_l2Edge_e_ok
noncomputable def spec_l2Pairs_e : Env := more spec_l2Edge_e spec_l2Pairs_D
theorem spec_l2Pairs_e_ok : EnvOk Try.prog spec_l2Pairs_e := more_ok spec_l2Edge_e_ok spec_l2Pairs_s
/-! loop.example/g01128/spec.l2Space -/
abbrev spec_l2Space_J0 : Tpl := ⟨[(1, .cst (.prod (.list (.list I)) (.list (.prod I I)))), (3, .val I)], [], []⟩
abbrev spec_l2Space_J1 : Tpl := ⟨[(2, .val .bool)], [], []⟩
abbrev spec_l2Space_J2 : Tpl := ⟨[(1, .cst (.prod (.list (.list I)) (.list (.prod I I))))], [], []⟩
abbrev spec_l2Space_E : Ve.End := ⟨[⟨2, .shr, .bool, none⟩], []⟩
abbrev spec_l2Space_a : List ASh := [.val (.prod (.list (.list I)) (.list (.prod I I)))]
abbrev spec_l2Space_o : List OSh := []
abbrev spec_l2Space_O0 : Out := .or .ret spec_l2Space_J1 (.one (.ex 0) spec_l2Space_J2)
noncomputable def spec_l2Space_B0 : spec_l2Space_J0.P → Option (spec_l2Space_J0.P ⊕ spec_l2Space_O0.P)
  | ((x, i, ()), ()) => bif (decide (i < (List.length x.1 : Int))) then (guardB (inb i (List.length x.1)) (match spec_l2State ((List.getD x.1 (Int.toNat i) ([] : (List Int))), ()) () with | some ((r, ()), ()) => (bif (!r) then (some (.inr (.inl ((false, ()), ())))) else (bif (decide ((0 : Int) < i)) then (guardB (inb (w64 (i - (1 : Int))) (List.length x.1)) (guardB (inb i (List.length x.1)) (match spec_l2Before ((List.getD x.1 (Int.toNat (w64 (i - (1 : Int)))) ([] : (List Int))), (List.getD x.1 (Int.toNat i) ([] : (List Int))), ()) () with | some ((r2, ()), ()) => (bif (!r2) then (some (.inr (.inl ((false, ()), ())))) else (some (.inl ((x, (w64 (i + (1 : Int))), ()), ())))) | none => none))) else (some (.inl ((x, (w64 (i + (1 : Int))), ()), ()))))) | none => none)) else (some (.inr (.inr ((x, ()), ()))))
noncomputable def spec_l2Space : argP spec_l2Space_a → obP (extObs 0 spec_l2Space_o) → Option spec_l2Space_E.P
  | (x, ()), () => bif (decide ((300 : Int) < (List.length x.1 : Int))) then (some ((false, ()), ())) else (bif (decide ((6000 : Int) < (List.length x.2 : Int))) then (some ((false, ()), ())) else (match loopO spec_l2Space_B0 ((x, (0 : Int), ()), ()) with | some (.inl ((t2, ()), ())) => some ((t2, ()), ()) | some (.inr ((x2, ()), ())) => (match spec_l2Pairs (x2.2, (List.length x2.1 : Int), ()) () with | some ((r, ()), ()) => some ((r, ()), ()) | none => none) | none => none))
noncomputable def spec_l2Space_x : Cx := ⟨tab, spec_l2Pairs_e, fun _ _ => 0, fun _ => false, [(26, 0), (26, 1), (26, 2), (26, 3), (43, 0), (43, 1), (43, 2), (43, 3), (52, 0), (52, 1), (52, 2), (52, 3)], [(1, 0)]⟩
noncomputable def c53 : Code := bodyOf Try.f53
noncomputable def spec_l2Space_A : Ann := .seq .nil (.seq .nil (.seq (.seq .nil (.loop spec_l2Space_J0 spec_l2Space_O0 spec_l2Space_B0 (.seq .nil (.seq (.seq (.draw [(0, .flo), (1, .flo), (2, .flo), (3, .flo), (4, .flo), (5, .sole), (6, .flo), (7, .flo), (8, .flo), (9, .flo), (10, .flo), (11, .flo), (13, .flo), (14, .flo), (17, .flo), (19, .flo), (12, .qui), (15, .flo), (16, .qui), (18, .qui), (20, .flo), (21, .qui), (22, .sole), (23, .flo), (24, .flo), (25, .flo)]) .nil) .nil)))) .nil))
theorem spec_l2Space_r0 (p : spec_l2Space_J0.P) : run spec_l2Space_x (subc [1, 1, 0, 1, 0, 0] c53) (.seq .nil (.seq (.seq (.draw [(0, .flo), (1, .flo), (2, .flo), (3, .flo), (4, .flo), (5, .sole), (6, .flo), (7, .flo), (8, .flo), (9, .flo), (10, .flo), (11, .flo), (13, .flo), (14, .flo), (17, .flo), (19, .flo), (12, .qui), (15, .flo), (16, .qui), (18, .qui), (20, .flo), (21, .qui), (22, .sole), (23, .flo), (24, .flo), (25, .flo)]) .nil) .nil)) (spec_l2Space_J0.S p) (leaf spec_l2Space_J0 spec_l2Space_O0) = spec_l2Space_B0 p := by kernel_rfl
noncomputable def spec_l2Space_D : Ve.Fn := ⟨53, spec_l2Space_a, spec_l2Space_o, spec_l2Space_E, spec_l2Space⟩
theorem spec_l2Space_w : Walk Try.prog spec_l2Space_x spec_l2Space_D Try.f53 c53 53 spec_l2Space_A :=
  ⟨⟨Try.func53, by kernel_rfl, by kernel_rfl, by kernel_rfl, by decide, by kernel_rfl, Nat.le_of_ble_eq_true (by kernel_rfl)⟩, by kernel_rfl, by kernel_rfl, by kernel_rfl, kcast (by kernel_rfl) (⟨spec_l2Space_r0, trivial⟩ : (∀ p, run spec_l2Space_x (subc [1, 1, 0, 1, 0, 0] c53) (.seq .nil (.seq (.seq (.draw [(0, .flo), (1, .flo), (2, .flo), (3, .flo), (4, .flo), (5, .sole), (6, .flo), (7, .flo), (8, .flo), (9, .flo), (10, .flo), (11, .flo), (13, .flo), (14, .flo), (17, .flo), (19, .flo), (12, .qui), (15, .flo), (16, .qui), (18, .qui), (20, .flo), (21, .qui), (22, .sole), (23, .flo), (24, .flo), (25, .flo)]) .nil) .nil)) (spec_l2Space_J0.S p) (leaf spec_l2Space_J0 spec_l2Space_O0) = spec_l2Space_B0 p) ∧ True), by kernel_rfl, fun x y => by kernel_rfl⟩
theorem spec_l2Space_s : spec_l2Space_D.Says Try.prog := spec_l2Space_w.says follows tabOk spec_l2Pairs_e_ok
noncomputable def spec_l2Space_e : Env := more spec_l2Pairs_e spec_l2Space_D
theorem spec_l2Space_e_ok : EnvOk Try.prog spec_l2Space_e := more_ok spec_l2Pairs_e_ok spec_l2Space_s
/-! loop.example/g01128/spec.l11Numbers -/
abbrev spec_l11Numbers_J0 : Tpl := ⟨[(0, .val (.list I)), (1, .val I), (5, .val I)], [], []⟩
abbrev spec_l11Numbers_J1 : Tpl := ⟨[(4, .val .bool)], [], []⟩
abbrev spec_l11Numbers_J2 : Tpl := ⟨[(0, .val (.list I)), (1, .val I)], [], []⟩
abbrev spec_l11Numbers_E : Ve.End := ⟨[⟨4, .shr, .bool, none⟩], []⟩
abbrev spec_l11Numbers_a : List ASh := [.val (.list I), .val I]
abbrev spec_l11Numbers_o : List OSh := []
abbrev spec_l11Numbers_O0 : Out := .or .ret spec_l11Numbers_J1 (.one (.ex 0) spec_l11Numbers_J2)
noncomputable def spec_l11Numbers_B0 : spec_l11Numbers_J0.P → Option (spec_l11Numbers_J0.P ⊕ spec_l11Numbers_O0.P)
  | ((list, n, i, ()), ()) => bif (decide (i < (List.length list : Int))) then (guardB (inb i (List.length list)) (match spec_l1In ((List.getD list (Int.toNat i) (0 : Int)), (0 : Int), (999 : Int), ()) () with | some ((r, ()), ()) => (bif (!r) then (some (.inr (.inl ((false, ()), ())))) else (some (.inl ((list, n, (w64 (i + (1 : Int))), ()), ())))) | none => none)) else (some (.inr (.inr ((list, n, ()), ()))))
noncomputable def spec_l11Numbers : argP spec_l11Numbers_a → obP (extObs 0 spec_l11Numbers_o) → Option spec_l11Numbers_E.P
  | (list, n, ()), () => match loopO spec_l11Numbers_B0 ((list, n, (0 : Int), ()), ()) with | some (.inl ((t4, ()), ())) => some ((t4, ()), ()) | some (.inr ((list2, n2, ()), ())) => some ((((List.length list2 : Int) == n2), ()), ()) | none => none
noncomputable def spec_l11Numbers_x : Cx := ⟨tab, spec_l2Space_e, fun _ _ => 0, fun _ => false, [(16, 0), (16, 1), (16, 2), (16, 3)], []⟩
noncomputable def c127 : Code := bodyOf Try.f127
noncomputable def spec_l11Numbers_A : Ann := .seq .nil (.seq (.seq .nil (.loop spec_l11Numbers_J0 spec_l11Numbers_O0 spec_l11Numbers_B0 .nil)) .nil)
theorem spec_l11Numbers_r0 (p : spec_l11Numbers_J0.P) : run spec_l11Numbers_x (subc [1, 0, 1, 0, 0] c127) .nil (spec_l11Numbers_J0.S p) (leaf spec_l11Numbers_J0 spec_l11Numbers_O0) = spec_l11Numbers_B0 p := by kernel_rfl
noncomputable def spec_l11Numbers_D : Ve.Fn := ⟨127, spec_l11Numbers_a, spec_l11Numbers_o, spec_l11Numbers_E, spec_l11Numbers⟩
theorem spec_l11Numbers_w : Walk Try.prog spec_l11Numbers_x spec_l11Numbers_D Try.f127 c127 22 spec_l11Numbers_A :=
  ⟨⟨Try.func127, by kernel_rfl, by kernel_rfl, by kernel_rfl, by decide, by kernel_rfl, Nat.le_of_ble_eq_true (by kernel_rfl)⟩, by kernel_rfl, by kernel_rfl, by kernel_rfl, kcast (by kernel_rfl) (⟨spec_l11Numbers_r0, trivial⟩ : (∀ p, run spec_l11Numbers_x (subc [1, 0, 1, 0, 0] c127) .nil (spec_l11Numbers_J0.S p) (leaf spec_l11Numbers_J0 spec_l11Numbers_O0) = spec_l11Numbers_B0 p) ∧ True), by kernel_rfl, fun x y => by kernel_rfl⟩
theorem spec_l11Numbers_s : spec_l11Numbers_D.Says Try.prog := spec_l11Numbers_w.says follows tabOk spec_l2Space_e_ok
noncomputable def spec_l11Numbers_e : Env := more spec_l2Space_e spec_l11Numbers_D
theorem spec_l11Numbers_e_ok : EnvOk Try.prog spec_l11Numbers_e := more_ok spec_l2Space_e_ok spec_l11Numbers_s
/-! loop.example/g01128/spec.l11Weighted -/
abbrev spec_l11Weighted_E : Ve.End := ⟨[⟨4, .shr, .bool, none⟩], []⟩
abbrev spec_l11Weighted_a : List ASh := [.val (.prod (.list (.list I)) (.list (.prod I I))), .val (.list I)]
abbrev spec_l11Weighted_o : List OSh := []
noncomputable def spec_l11Weighted : argP spec_l11Weighted_a → obP (extObs 0 spec_l11Weighted_o) → Option spec_l11Weighted_E.P
  | (x, weights, ()), () => match spec_l2Space (x, ()) () with | some ((r, ()), ()) => (bif r then (match spec_l11Numbers (weights, (List.length x.2 : Int), ()) () with | some ((r2, ()), ()) => some ((r2, ()), ()) | none => none) else (some ((false, ()), ()))) | none => none
noncomputable def spec_l11Weighted_x : Cx := ⟨tab, spec_l11Numbers_e, fun _ _ => 0, fun _ => false, [(6, 0), (6, 1), (6, 2), (6, 3), (12, 0), (12, 1), (12, 2), (12, 3)], [(2, 0)]⟩
noncomputable def c70 : Code := bodyOf Try.f70
noncomputable def spec_l11Weighted_A : Ann := .nil
noncomputable def spec_l11Weighted_D : Ve.Fn := ⟨70, spec_l11Weighted_a, spec_l11Weighted_o, spec_l11Weighted_E, spec_l11Weighted⟩
theorem spec_l11Weighted_w : Walk Try.prog spec_l11Weighted_x spec_l11Weighted_D Try.f70 c70 14 spec_l11Weighted_A :=
  ⟨⟨Try.func70, by kernel_rfl, by kernel_rfl, by kernel_rfl, by decide, by kernel_rfl, Nat.le_of_ble_eq_true (by kernel_rfl)⟩, by kernel_rfl, by kernel_rfl, by kernel_rfl, kcast (by kernel_rfl) trivial, by kernel_rfl, fun x y => by kernel_rfl⟩
theorem spec_l11Weighted_s : spec_l11Weighted_D.Says Try.prog := spec_l11Weighted_w.says follows tabOk spec_l11Numbers_e_ok
noncomputable def spec_l11Weighted_e : Env := more spec_l11Numbers_e spec_l11Weighted_D
theorem spec_l11Weighted_e_ok : EnvOk Try.prog spec_l11Weighted_e := more_ok spec_l11Numbers_e_ok spec_l11Weighted_s
/-! loop.example/g01128/spec.l1Put -/
abbrev spec_l1Put_J0 : Tpl := ⟨[(0, .val (.list I)), (1, .val I), (5, .val I)], [], []⟩
abbrev spec_l1Put_J1 : Tpl := ⟨[(4, .own .shr I)], [], []⟩
abbrev spec_l1Put_J2 : Tpl := ⟨[(36, .val (.list I)), (38, .val I), (43, .val (.list I))], [], []⟩
abbrev spec_l1Put_J3 : Tpl := ⟨[(33, .own .shr I), (36, .val (.list I)), (38, .val I), (43, .val (.list I))], [], []⟩
abbrev spec_l1Put_E : Ve.End := ⟨[⟨4, .shr, (.list I), none⟩], []⟩
abbrev spec_l1Put_a : List ASh := [.val (.list I), .val I]
abbrev spec_l1Put_o : List OSh := []
noncomputable def spec_l1Put_D1 : spec_l1Put_J3.P → Option spec_l1Put_J1.P
  | ((t33, t36, t38, t43, ()), ()) => guardB (decide ((List.length t33 + List.length t36) * 8 ≤ 70368744177664)) (guardB (decide ((List.length (t33 ++ t36) + List.length [t38]) * 8 ≤ 70368744177664)) (guardB (decide ((List.length ((t33 ++ t36) ++ [t38]) + List.length t43) * 8 ≤ 70368744177664)) (some (((((t33 ++ t36) ++ [t38]) ++ t43), ()), ()))))
noncomputable def spec_l1Put_T1 : DT spec_l1Put_J1 := .node spec_l1Put_J3 spec_l1Put_D1 (.br [(4, .sole), (6, .sole), (7, .sole), (11, .sole), (12, .flo)] .fin (.br [(6, .sole), (4, .sole), (7, .sole), (11, .sole), (12, .flo)] .fin .nobr))
noncomputable def spec_l1Put_D0 : spec_l1Put_J2.P → Option spec_l1Put_J1.P
  | ((t36, t38, t43, ()), ()) => spec_l1Put_D1 ((([] : (List Int)), t36, t38, t43, ()), ())
noncomputable def spec_l1Put_T0 : DT spec_l1Put_J1 := .node spec_l1Put_J2 spec_l1Put_D0 (.br [(0, .sole)] spec_l1Put_T1 (.br [(6, .sole), (0, .sole), (4, .sole), (7, .sole), (11, .sole), (12, .flo)] .fin .nobr))
abbrev spec_l1Put_O0 : Out := .one (.ex 0) spec_l1Put_J0
noncomputable def spec_l1Put_B0 : spec_l1Put_J0.P → Option (spec_l1Put_J0.P ⊕ spec_l1Put_O0.P)
  | ((l, n, k, ()), ()) => bif (decide (k < (List.length l : Int))) then (guardB (inb k (List.length l)) (bif (decide ((List.getD l (Int.toNat k) (0 : Int)) < n)) then (some (.inl ((l, n, (w64 (k + (1 : Int))), ()), ()))) else (some (.inr ((l, n, k, ()), ()))))) else (some (.inr ((l, n, k, ()), ())))
noncomputable def spec_l1Put : argP spec_l1Put_a → obP (extObs 0 spec_l1Put_o) → Option spec_l1Put_E.P
  | (l, n, ()), () => match loopO spec_l1Put_B0 ((l, n, (0 : Int), ()), ()) with | some ((l2, n2, k, ()), ()) => (match (bif (decide (k < (List.length l2 : Int))) then (guardB (inb k (List.length l2)) (bif ((List.getD l2 (Int.toNat k) (0 : Int)) == n2) then (some (.inr ((l2, ()), ()))) else (some (.inl ((l2, n2, k, ()), ()))))) else (some (.inl ((l2, n2, k, ()), ()))) : Option (spec_l1Put_J0.P ⊕ spec_l1Put_E.P)) with | some (.inl ((l3, n3, k2, ()), ())) => guardB (decide (0 ≤ (0 : Int)) && decide ((0 : Int) ≤ k2) && decide (k2 ≤ (List.length l3 : Int))) (guardB (decide (0 ≤ k2) && decide (k2 ≤ (List.length l3 : Int)) && decide ((List.length l3 : Int) ≤ (List.length l3 : Int))) (match spec_l1Put_D0 (((List.take (Int.toNat k2) l3), n3, (List.drop (Int.toNat k2) l3), ()), ()) with | some ((t4, ()), ()) => some ((t4, ()), ()) | none => none)) | some (.inr r) => some r | none => none) | none => none
noncomputable def spec_l1Put_x : Cx := ⟨tab, spec_l11Weighted_e, fun _ _ => 0, fun _ => false, [(39, 0)], []⟩
noncomputable def c90 : Code := bodyOf Try.f90
noncomputable def spec_l1Put_A : Ann := .seq .nil (.seq .nil (.seq (.loop spec_l1Put_J0 spec_l1Put_O0 spec_l1Put_B0 .nil) (.cut spec_l1Put_J0 .nil (.seq (.draws [(1, .flo), (2, .flo), (3, .flo), (5, .flo), (8, .flo), (9, .flo), (10, .flo)] spec_l1Put_J1 spec_l1Put_T0) .nil))))
theorem spec_l1Put_r0 (p : spec_l1Put_J0.P) : run spec_l1Put_x (subc [1, 1, 0, 0, 0] c90) .nil (spec_l1Put_J0.S p) (leaf spec_l1Put_J0 spec_l1Put_O0) = spec_l1Put_B0 p := by kernel_rfl
theorem spec_l1Put_D0b0 (p : spec_l1Put_J2.P) : runDrawn spec_l1Put_x (opsOf (subc [1, 1, 1, 1, 0] c90)) [(0, .sole)] (spec_l1Put_J2.S p) (endT spec_l1Put_x spec_l1Put_T1) = spec_l1Put_D0 p := by kernel_rfl
theorem spec_l1Put_D1b0 (p : spec_l1Put_J3.P) : runDrawn spec_l1Put_x (opsOf (subc [1, 1, 1, 1, 0] c90)) [(4, .sole), (6, .sole), (7, .sole), (11, .sole), (12, .flo)] (spec_l1Put_J3.S p) (endT spec_l1Put_x (.fin : DT spec_l1Put_J1)) = spec_l1Put_D1 p := by kernel_rfl
theorem spec_l1Put_D1b1 (p : spec_l1Put_J3.P) : runDrawn spec_l1Put_x (opsOf (subc [1, 1, 1, 1, 0] c90)) [(6, .sole), (4, .sole), (7, .sole), (11, .sole), (12, .flo)] (spec_l1Put_J3.S p) (endT spec_l1Put_x (.fin : DT spec_l1Put_J1)) = spec_l1Put_D1 p := by kernel_rfl
theorem spec_l1Put_D0b1 (p : spec_l1Put_J2.P) : runDrawn spec_l1Put_x (opsOf (subc [1, 1, 1, 1, 0] c90)) [(6, .sole), (0, .sole), (4, .sole), (7, .sole), (11, .sole), (12, .flo)] (spec_l1Put_J2.S p) (endT spec_l1Put_x (.fin : DT spec_l1Put_J1)) = spec_l1Put_D0 p := by kernel_rfl
noncomputable def spec_l1Put_D : Ve.Fn := ⟨90, spec_l1Put_a, spec_l1Put_o, spec_l1Put_E, spec_l1Put⟩
theorem spec_l1Put_w : Walk Try.prog spec_l1Put_x spec_l1Put_D Try.f90 c90 45 spec_l1Put_A :=
  ⟨⟨Try.func90, by kernel_rfl, by kernel_rfl, by kernel_rfl, by decide, by kernel_rfl, Nat.le_of_ble_eq_true (by kernel_rfl)⟩, by kernel_rfl, by kernel_rfl, by kernel_rfl, kcast (by kernel_rfl) (⟨spec_l1Put_r0, spec_l1Put_D0b0, spec_l1Put_D1b0, spec_l1Put_D1b1, spec_l1Put_D0b1, trivial⟩ : (∀ p, run spec_l1Put_x (subc [1, 1, 0, 0, 0] c90) .nil (spec_l1Put_J0.S p) (leaf spec_l1Put_J0 spec_l1Put_O0) = spec_l1Put_B0 p) ∧ (∀ p, runDrawn spec_l1Put_x (opsOf (subc [1, 1, 1, 1, 0] c90)) [(0, .sole)] (spec_l1Put_J2.S p) (endT spec_l1Put_x spec_l1Put_T1) = spec_l1Put_D0 p) ∧ (∀ p, runDrawn spec_l1Put_x (opsOf (subc [1, 1, 1, 1, 0] c90)) [(4, .sole), (6, .sole), (7, .sole), (11, .sole), (12, .flo)] (spec_l1Put_J3.S p) (endT spec_l1Put_x (.fin : DT spec_l1Put_J1)) = spec_l1Put_D1 p) ∧ (∀ p, runDrawn spec_l1Put_x (opsOf (subc [1, 1, 1, 1, 0] c90)) [(6, .sole), (4, .sole), (7, .sole), (11, .sole), (12, .flo)] (spec_l1Put_J3.S p) (endT spec_l1Put_x (.fin : DT spec_l1Put_J1)) = spec_l1Put_D1 p) ∧ (∀ p, runDrawn spec_l1Put_x (opsOf (subc [1, 1, 1, 1, 0] c90)) [(6, .sole), (0, .sole), (4, .sole), (7, .sole), (11, .sole), (12, .flo)] (spec_l1Put_J2.S p) (endT spec_l1Put_x (.fin : DT spec_l1Put_J1)) = spec_l1Put_D0 p) ∧ True), by kernel_rfl, fun x y => by kernel_rfl⟩
theorem spec_l1Put_s : spec_l1Put_D.Says Try.prog := spec_l1Put_w.says follows tabOk spec_l11Weighted_e_ok
noncomputable def spec_l1Put_e : Env := more spec_l11Weighted_e spec_l1Put_D
theorem spec_l1Put_e_ok : EnvOk Try.prog spec_l1Put_e := more_ok spec_l11Weighted_e_ok spec_l1Put_s
/-! loop.example/g01128/spec.CheapTree -/
abbrev spec_CheapTree_J0 : Tpl := ⟨[(1, .val (.list I)), (2, .cst (.prod (.list (.list I)) (.list (.prod I I)))), (6, .val (.list I)), (7, .own .shr I), (8, .val I)], [], []⟩
abbrev spec_CheapTree_J1 : Tpl := ⟨[(1, .val (.list I)), (2, .cst (.prod (.list (.list I)) (.list (.prod I I)))), (6, .val (.list I)), (7, .own .shr I)], [], []⟩
abbrev spec_CheapTree_J2 : Tpl := ⟨[(1, .val (.list I)), (2, .cst (.prod (.list (.list I)) (.list (.prod I I)))), (6, .val (.list I)), (7, .own .shr I), (9, .val I), (10, .val I), (11, .val I), (12, .val I), (13, .val I)], [], []⟩
abbrev spec_CheapTree_J3 : Tpl := ⟨[(1, .val (.list I)), (2, .cst (.prod (.list (.list I)) (.list (.prod I I)))), (6, .val (.list I)), (7, .own .shr I), (9, .val I), (10, .val I)], [], []⟩
abbrev spec_CheapTree_J4 : Tpl := ⟨[(1, .val (.list I)), (2, .cst (.prod (.list (.list I)) (.list (.prod I I)))), (6, .val (.list I)), (7, .own .shr I), (9, .val I)], [], []⟩
abbrev spec_CheapTree_J5 : Tpl := ⟨[(6, .val (.list I))], [], []⟩
abbrev spec_CheapTree_E : Ve.End := ⟨[⟨4, .shr, (.list I), none⟩, ⟨5, .shr, .bool, none⟩], []⟩
abbrev spec_CheapTree_a : List ASh := [.val (.prod (.list (.list I)) (.list (.prod I I))), .val (.list I)]
abbrev spec_CheapTree_o : List OSh := []
abbrev spec_CheapTree_O0 : Out := .one (.ex 0) spec_CheapTree_J1
noncomputable def spec_CheapTree_B0 : spec_CheapTree_J0.P → Option (spec_CheapTree_J0.P ⊕ spec_CheapTree_O0.P)
  | ((t1, t2, t6, t7, t8, ()), ()) => bif (decide (t8 < (List.length t2.1 : Int))) then (guardB (decide ((List.length t7 + List.length [t8]) * 8 ≤ 70368744177664)) (some (.inl ((t1, t2, t6, (t7 ++ [t8]), (w64 (t8 + (1 : Int))), ()), ())))) else (some (.inr ((t1, t2, t6, t7, ()), ())))
abbrev spec_CheapTree_O1 : Out := .one (.ex 6) spec_CheapTree_J3
noncomputable def spec_CheapTree_B1 : spec_CheapTree_J2.P → Option (spec_CheapTree_J2.P ⊕ spec_CheapTree_O1.P)
  | ((t1, t2, t6, t7, t9, t10, t11, t12, t13, ()), ()) => bif (decide (t13 < (List.length t7 : Int))) then (guardB (inb t13 (List.length t7)) (bif ((List.getD t7 (Int.toNat t13) (0 : Int)) == t12) then (guardB (inb t13 (List.length t7)) (some (.inl ((t1, t2, t6, (List.set t7 (Int.toNat t13) t11), t9, t10, t11, t12, (w64 (t13 + (1 : Int))), ()), ())))) else (some (.inl ((t1, t2, t6, t7, t9, t10, t11, t12, (w64 (t13 + (1 : Int))), ()), ()))))) else (some (.inr ((t1, t2, t6, t7, t9, t10, ()), ())))
abbrev spec_CheapTree_O2 : Out := .one (.ex 4) spec_CheapTree_J4
noncomputable def spec_CheapTree_B2 : spec_CheapTree_J3.P → Option (spec_CheapTree_J3.P ⊕ spec_CheapTree_O2.P)
  | ((t1, t2, t6, t7, t9, t10, ()), ()) => bif (decide (t10 < (List.length t2.2 : Int))) then (guardB (inb t10 (List.length t2.2)) (guardB (inb ((List.getD t2.2 (Int.toNat t10) ((0 : Int), (0 : Int))).1) (List.length t7)) (guardB (inb t10 (List.length t2.2)) (guardB (inb ((List.getD t2.2 (Int.toNat t10) ((0 : Int), (0 : Int))).2) (List.length t7)) (guardB (inb t10 (List.length t1)) (bif ((List.getD t1 (Int.toNat t10) (0 : Int)) != t9) then (some (.inl ((t1, t2, t6, t7, t9, (w64 (t10 + (1 : Int))), ()), ()))) else (bif ((List.getD t7 (Int.toNat ((List.getD t2.2 (Int.toNat t10) ((0 : Int), (0 : Int))).1)) (0 : Int)) == (List.getD t7 (Int.toNat ((List.getD t2.2 (Int.toNat t10) ((0 : Int), (0 : Int))).2)) (0 : Int))) then (some (.inl ((t1, t2, t6, t7, t9, (w64 (t10 + (1 : Int))), ()), ()))) else (match spec_l1Put (t6, t10, ()) () with | some ((r, ()), ()) => (match loopO spec_CheapTree_B1 ((t1, t2, r, t7, t9, t10, (List.getD t7 (Int.toNat ((List.getD t2.2 (Int.toNat t10) ((0 : Int), (0 : Int))).1)) (0 : Int)), (List.getD t7 (Int.toNat ((List.getD t2.2 (Int.toNat t10) ((0 : Int), (0 : Int))).2)) (0 : Int)), (0 : Int), ()), ()) with | some ((t1_2, t2_2, t6_2, t7_2, t9_2, t10_2, ()), ()) => some (.inl ((t1_2, t2_2, t6_2, t7_2, t9_2, (w64 (t10_2 + (1 : Int))), ()), ())) | none => none) | none => none)))))))) else (some (.inr ((t1, t2, t6, t7, t9, ()), ())))
abbrev spec_CheapTree_O3 : Out := .one (.ex 2) spec_CheapTree_J5
noncomputable def spec_CheapTree_B3 : spec_CheapTree_J4.P → Option (spec_CheapTree_J4.P ⊕ spec_CheapTree_O3.P)
  | ((t1, t2, t6, t7, t9, ()), ()) => bif (decide (t9 ≤ (999 : Int))) then (match loopO spec_CheapTree_B2 ((t1, t2, t6, t7, t9, (0 : Int), ()), ()) with | some ((t1_2, t2_2, t6_2, t7_2, t9_2, ()), ()) => some (.inl ((t1_2, t2_2, t6_2, t7_2, (w64 (t9_2 + (1 : Int))), ()), ())) | none => none) else (some (.inr ((t6, ()), ())))
noncomputable def spec_CheapTree : argP spec_CheapTree_a → obP (extObs 0 spec_CheapTree_o) → Option spec_CheapTree_E.P
  | (t0, t1, ()), () => match spec_l11Weighted (t0, t1, ()) () with | some ((r, ()), ()) => (bif (!r) then (some ((([] : (List Int)), false, ()), ())) else (match loopO spec_CheapTree_B0 ((t1, t0, ([] : (List Int)), ([] : (List Int)), (0 : Int), ()), ()) with | some ((t1_2, t2, t6, t7, ()), ()) => (match loopO spec_CheapTree_B3 ((t1_2, t2, t6, t7, (0 : Int), ()), ()) with | some ((t6_2, ()), ()) => some ((t6_2, true, ()), ()) | none => none) | none => none)) | none => none
noncomputable def spec_CheapTree_x : Cx := ⟨tab, spec_l1Put_e, fun _ _ => 0, fun _ => false, [(14, 0), (6, 0), (17, 0), (17, 1), (17, 2), (17, 3), (30, 0), (74, 0), (74, 1), (74, 2), (74, 3)], [(2, 0)]⟩
noncomputable def c42 : Code := bodyOf Try.f42
noncomputable def spec_CheapTree_A : Ann := .seq .nil (.seq .nil (.seq .nil (.seq .nil (.seq (.seq .nil (.loop spec_CheapTree_J0 spec_CheapTree_O0 spec_CheapTree_B0 .nil)) (.seq (.seq .nil (.loop spec_CheapTree_J4 spec_CheapTree_O3 spec_CheapTree_B3 (.seq .nil (.seq (.seq .nil (.loop spec_CheapTree_J3 spec_CheapTree_O2 spec_CheapTree_B2 (.seq .nil (.seq (.seq (.draw [(0, .flo), (1, .flo), (2, .flo), (3, .flo), (4, .flo), (5, .flo), (6, .flo), (7, .flo), (9, .flo), (10, .flo), (11, .flo), (12, .flo), (13, .flo), (14, .flo), (15, .flo), (16, .flo), (8, .qui), (18, .flo), (17, .qui), (19, .flo)]) (.seq .nil (.seq .nil (.seq .nil (.loop spec_CheapTree_J2 spec_CheapTree_O1 spec_CheapTree_B1 .nil))))) .nil)))) .nil)))) .nil)))))
theorem spec_CheapTree_r0 (p : spec_CheapTree_J0.P) : run spec_CheapTree_x (subc [1, 1, 1, 1, 0, 1, 0, 0] c42) .nil (spec_CheapTree_J0.S p) (leaf spec_CheapTree_J0 spec_CheapTree_O0) = spec_CheapTree_B0 p := by kernel_rfl
theorem spec_CheapTree_r1 (p : spec_CheapTree_J4.P) : run spec_CheapTree_x (subc [1, 1, 1, 1, 1, 0, 1, 0, 0] c42) (.seq .nil (.seq (.seq .nil (.loop spec_CheapTree_J3 spec_CheapTree_O2 spec_CheapTree_B2 (.seq .nil (.seq (.seq (.draw [(0, .flo), (1, .flo), (2, .flo), (3, .flo), (4, .flo), (5, .flo), (6, .flo), (7, .flo), (9, .flo), (10, .flo), (11, .flo), (12, .flo), (13, .flo), (14, .flo), (15, .flo), (16, .flo), (8, .qui), (18, .flo), (17, .qui), (19, .flo)]) (.seq .nil (.seq .nil (.seq .nil (.loop spec_CheapTree_J2 spec_CheapTree_O1 spec_CheapTree_B1 .nil))))) .nil)))) .nil)) (spec_CheapTree_J4.S p) (leaf spec_CheapTree_J4 spec_CheapTree_O3) = spec_CheapTree_B3 p := by kernel_rfl
theorem spec_CheapTree_r2 (p : spec_CheapTree_J3.P) : run spec_CheapTree_x (subc [1, 1, 1, 1, 1, 0, 1, 0, 0, 1, 0, 0, 1, 0, 0] c42) (.seq .nil (.seq (.seq (.draw [(0, .flo), (1, .flo), (2, .flo), (3, .flo), (4, .flo), (5, .flo), (6, .flo), (7, .flo), (9, .flo), (10, .flo), (11, .flo), (12, .flo), (13, .flo), (14, .flo), (15, .flo), (16, .flo), (8, .qui), (18, .flo), (17, .qui), (19, .flo)]) (.seq .nil (.seq .nil (.seq .nil (.loop spec_CheapTree_J2 spec_CheapTree_O1 spec_CheapTree_B1 .nil))))) .nil)) (spec_CheapTree_J3.S p) (leaf spec_CheapTree_J3 spec_CheapTree_O2) = spec_CheapTree_B2 p := by kernel_rfl
theorem spec_CheapTree_r3 (p : spec_CheapTree_J2.P) : run spec_CheapTree_x (subc [1, 1, 1, 1, 1, 0, 1, 0, 0, 1, 0, 0, 1, 0, 0, 1, 0, 0, 1, 1, 1, 1, 0, 0] c42) .nil (spec_CheapTree_J2.S p) (leaf spec_CheapTree_J2 spec_CheapTree_O1) = spec_CheapTree_B1 p := by kernel_rfl
noncomputable def spec_CheapTree_D : Ve.Fn := ⟨42, spec_CheapTree_a, spec_CheapTree_o, spec_CheapTree_E, spec_CheapTree⟩
theorem spec_CheapTree_w : Walk Try.prog spec_CheapTree_x spec_CheapTree_D Try.f42 c42 92 spec_CheapTree_A :=
  ⟨⟨Try.func42, by kernel_rfl, by kernel_rfl, by kernel_rfl, by decide, by kernel_rfl, Nat.le_of_ble_eq_true (by kernel_rfl)⟩, by kernel_rfl, by kernel_rfl, by kernel_rfl, kcast (by kernel_rfl) (⟨spec_CheapTree_r0, spec_CheapTree_r1, spec_CheapTree_r2, spec_CheapTree_r3, trivial⟩ : (∀ p, run spec_CheapTree_x (subc [1, 1, 1, 1, 0, 1, 0, 0] c42) .nil (spec_CheapTree_J0.S p) (leaf spec_CheapTree_J0 spec_CheapTree_O0) = spec_CheapTree_B0 p) ∧ (∀ p, run spec_CheapTree_x (subc [1, 1, 1, 1, 1, 0, 1, 0, 0] c42) (.seq .nil (.seq (.seq .nil (.loop spec_CheapTree_J3 spec_CheapTree_O2 spec_CheapTree_B2 (.seq .nil (.seq (.seq (.draw [(0, .flo), (1, .flo), (2, .flo), (3, .flo), (4, .flo), (5, .flo), (6, .flo), (7, .flo), (9, .flo), (10, .flo), (11, .flo), (12, .flo), (13, .flo), (14, .flo), (15, .flo), (16, .flo), (8, .qui), (18, .flo), (17, .qui), (19, .flo)]) (.seq .nil (.seq .nil (.seq .nil (.loop spec_CheapTree_J2 spec_CheapTree_O1 spec_CheapTree_B1 .nil))))) .nil)))) .nil)) (spec_CheapTree_J4.S p) (leaf spec_CheapTree_J4 spec_CheapTree_O3) = spec_CheapTree_B3 p) ∧ (∀ p, run spec_CheapTree_x (subc [1, 1, 1, 1, 1, 0, 1, 0, 0, 1, 0, 0, 1, 0, 0] c42) (.seq .nil (.seq (.seq (.draw [(0, .flo), (1, .flo), (2, .flo), (3, .flo), (4, .flo), (5, .flo), (6, .flo), (7, .flo), (9, .flo), (10, .flo), (11, .flo), (12, .flo), (13, .flo), (14, .flo), (15, .flo), (16, .flo), (8, .qui), (18, .flo), (17, .qui), (19, .flo)]) (.seq .nil (.seq .nil (.seq .nil (.loop spec_CheapTree_J2 spec_CheapTree_O1 spec_CheapTree_B1 .nil))))) .nil)) (spec_CheapTree_J3.S p) (leaf spec_CheapTree_J3 spec_CheapTree_O2) = spec_CheapTree_B2 p) ∧ (∀ p, run spec_CheapTree_x (subc [1, 1, 1, 1, 1, 0, 1, 0, 0, 1, 0, 0, 1, 0, 0, 1, 0, 0, 1, 1, 1, 1, 0, 0] c42) .nil (spec_CheapTree_J2.S p) (leaf spec_CheapTree_J2 spec_CheapTree_O1) = spec_CheapTree_B1 p) ∧ True), by kernel_rfl, fun x y => by kernel_rfl⟩
theorem spec_CheapTree_s : spec_CheapTree_D.Says Try.prog := spec_CheapTree_w.says follows tabOk spec_l1Put_e_ok
noncomputable def spec_CheapTree_e : Env := more spec_l1Put_e spec_CheapTree_D
theorem spec_CheapTree_e_ok : EnvOk Try.prog spec_CheapTree_e := more_ok spec_l1Put_e_ok spec_CheapTree_s
/-! loop.example/g01128/impl.between -/
abbrev impl_between_E : Ve.End := ⟨[⟨6, .shr, .bool, none⟩], []⟩
abbrev impl_between_a : List ASh := [.val I, .val I, .val I]
abbrev impl_between_o : List OSh := []
noncomputable def impl_between : argP impl_between_a → obP (extObs 0 impl_between_o) → Option impl_between_E.P
  | (n, low, high, ()), () => bif (decide (low ≤ n)) then (some (((decide (n ≤ high)), ()), ())) else (some ((false, ()), ()))
noncomputable def impl_between_x : Cx := ⟨tab, spec_CheapTree_e, fun _ _ => 0, fun _ => false, [], []⟩
noncomputable def c64 : Code := bodyOf Try.f64
noncomputable def impl_between_A : Ann := .nil
noncomputable def impl_between_D : Ve.Fn := ⟨64, impl_between_a, impl_between_o, impl_between_E, impl_between⟩
theorem impl_between_w : Walk Try.prog impl_between_x impl_between_D Try.f64 c64 15 impl_between_A :=
  ⟨⟨Try.func64, by kernel_rfl, by kernel_rfl, by kernel_rfl, by decide, by kernel_rfl, Nat.le_of_ble_eq_true (by kernel_rfl)⟩, by kernel_rfl, by kernel_rfl, by kernel_rfl, kcast (by kernel_rfl) trivial, by kernel_rfl, fun x y => by kernel_rfl⟩
theorem impl_between_s : impl_between_D.Says Try.prog := impl_between_w.says follows tabOk spec_CheapTree_e_ok
noncomputable def impl_between_e : Env := more spec_CheapTree_e impl_between_D
theorem impl_between_e_ok : EnvOk Try.prog impl_between_e := more_ok spec_CheapTree_e_ok impl_between_s
/-! loop.example/g01128/impl.isState$1 -/
abbrev impl_isState_1_E : Ve.End := ⟨[⟨2, .shr, .bool, none⟩], []⟩
abbrev impl_isState_1_a : List ASh := [.val I]
abbrev impl_isState_1_o : List OSh := []
noncomputable def impl_isState_1 : argP impl_isState_1_a → obP (extObs 0 impl_isState_1_o) → Option impl_isState_1_E.P
  | (n, ()), () => match impl_between (n, (-99 : Int), (99 : Int), ()) () with | some ((r, ()), ()) => some (((!r), ()), ()) | none => none
noncomputable def impl_isState_1_x : Cx := ⟨tab, impl_between_e, fun _ _ => 0, fun _ => false, [(4, 0), (4, 1), (4, 2), (4, 3)], []⟩
noncomputable def c151 : Code := bodyOf Try.f151
noncomputable def impl_isState_1_A : Ann := .nil
noncomputable def impl_isState_1_D : Ve.Fn := ⟨151, impl_isState_1_a, impl_isState_1_o, impl_isState_1_E, impl_isState_1⟩
theorem impl_isState_1_w : Walk Try.prog impl_isState_1_x impl_isState_1_D Try.f151 c151 6 impl_isState_1_A :=
  ⟨⟨Try.func151, by kernel_rfl, by kernel_rfl, by kernel_rfl, by decide, by kernel_rfl, Nat.le_of_ble_eq_true (by kernel_rfl)⟩, by kernel_rfl, by kernel_rfl, by kernel_rfl, kcast (by kernel_rfl) trivial, by kernel_rfl, fun x y => by kernel_rfl⟩
theorem impl_isState_1_s : impl_isState_1_D.Says Try.prog := impl_isState_1_w.says follows tabOk impl_between_e_ok
noncomputable def impl_isState_1_e : Env := more impl_between_e impl_isState_1_D
theorem impl_isState_1_e_ok : EnvOk Try.prog impl_isState_1_e := more_ok impl_between_e_ok impl_isState_1_s
/-! slices.IndexFunc[[]int,int] -/
abbrev slices_IndexFunc_int_int_2_vf_impl_isState_1_J0 : Tpl := ⟨[(0, .val (.list I)), (1, .fn ⟨151, []⟩), (7, .val I), (8, .val I)], [], []⟩
abbrev slices_IndexFunc_int_int_2_vf_impl_isState_1_J1 : Tpl := ⟨[(4, .val I)], [], []⟩
abbrev slices_IndexFunc_int_int_2_vf_impl_isState_1_J2 : Tpl := ⟨[], [], []⟩
abbrev slices_IndexFunc_int_int_2_vf_impl_isState_1_E : Ve.End := ⟨[⟨4, .shr, I, none⟩], []⟩
abbrev slices_IndexFunc_int_int_2_vf_impl_isState_1_a : List ASh := [.val (.list I), .fn 151 []]
abbrev slices_IndexFunc_int_int_2_vf_impl_isState_1_o : List OSh := []
abbrev slices_IndexFunc_int_int_2_vf_impl_isState_1_O0 : Out := .or .ret slices_IndexFunc_int_int_2_vf_impl_isState_1_J1 (.one (.ex 0) slices_IndexFunc_int_int_2_vf_impl_isState_1_J2)
noncomputable def slices_IndexFunc_int_int_2_vf_impl_isState_1_B0 : slices_IndexFunc_int_int_2_vf_impl_isState_1_J0.P → Option (slices_IndexFunc_int_int_2_vf_impl_isState_1_J0.P ⊕ slices_IndexFunc_int_int_2_vf_impl_isState_1_O0.P)
  | ((s, t7, t8, ()), ()) => bif (decide (t8 < t7)) then (guardB (inb t8 (List.length s)) (match impl_isState_1 ((List.getD s (Int.toNat t8) (0 : Int)), ()) () with | some ((r, ()), ()) => (bif r then (some (.inr (.inl ((t8, ()), ())))) else (some (.inl ((s, t7, (w64 (t8 + (1 : Int))), ()), ())))) | none => none)) else (some (.inr (.inr ((), ()))))
noncomputable def slices_IndexFunc_int_int_2_vf_impl_isState_1 : argP slices_IndexFunc_int_int_2_vf_impl_isState_1_a → obP (extObs 0 slices_IndexFunc_int_int_2_vf_impl_isState_1_o) → Option slices_IndexFunc_int_int_2_vf_impl_isState_1_E.P
  | (s, ()), () => match loopO slices_IndexFunc_int_int_2_vf_impl_isState_1_B0 ((s, (List.length s : Int), (0 : Int), ()), ()) with | some (.inl ((t4, ()), ())) => some ((t4, ()), ()) | some (.inr ((), ())) => some (((-1 : Int), ()), ()) | none => none
noncomputable def slices_IndexFunc_int_int_2_vf_impl_isState_1_x : Cx := ⟨tab, impl_isState_1_e, fun _ _ => 0, fun _ => false, [(16, 0), (16, 1), (16, 2), (16, 3)], []⟩
noncomputable def c154 : Code := bodyOf Try.f154
noncomputable def slices_IndexFunc_int_int_2_vf_impl_isState_1_A : Ann := .seq .nil (.seq (.seq .nil (.loop slices_IndexFunc_int_int_2_vf_impl_isState_1_J0 slices_IndexFunc_int_int_2_vf_impl_isState_1_O0 slices_IndexFunc_int_int_2_vf_impl_isState_1_B0 .nil)) .nil)
theorem slices_IndexFunc_int_int_2_vf_impl_isState_1_r0 (p : slices_IndexFunc_int_int_2_vf_impl_isState_1_J0.P) : run slices_IndexFunc_int_int_2_vf_impl_isState_1_x (subc [1, 0, 1, 0, 0] c154) .nil (slices_IndexFunc_int_int_2_vf_impl_isState_1_J0.S p) (leaf slices_IndexFunc_int_int_2_vf_impl_isState_1_J0 slices_IndexFunc_int_int_2_vf_impl_isState_1_O0) = slices_IndexFunc_int_int_2_vf_impl_isState_1_B0 p := by kernel_rfl
noncomputable def slices_IndexFunc_int_int_2_vf_impl_isState_1_D : Ve.Fn := ⟨154, slices_IndexFunc_int_int_2_vf_impl_isState_1_a, slices_IndexFunc_int_int_2_vf_impl_isState_1_o, slices_IndexFunc_int_int_2_vf_impl_isState_1_E, slices_IndexFunc_int_int_2_vf_impl_isState_1⟩
theorem slices_IndexFunc_int_int_2_vf_impl_isState_1_w : Walk Try.prog slices_IndexFunc_int_int_2_vf_impl_isState_1_x slices_IndexFunc_int_int_2_vf_impl_isState_1_D Try.f154 c154 19 slices_IndexFunc_int_int_2_vf_impl_isState_1_A :=
  ⟨⟨Try.func154, by kernel_rfl, by kernel_rfl, by kernel_rfl, by decide, by kernel_rfl, Nat.le_of_ble_eq_true (by kernel_rfl)⟩, by kernel_rfl, by kernel_rfl, by kernel_rfl, kcast (by kernel_rfl) (⟨slices_IndexFunc_int_int_2_vf_impl_isState_1_r0, trivial⟩ : (∀ p, run slices_IndexFunc_int_int_2_vf_impl_isState_1_x (subc [1, 0, 1, 0, 0] c154) .nil (slices_IndexFunc_int_int_2_vf_impl_isState_1_J0.S p) (leaf slices_IndexFunc_int_int_2_vf_impl_isState_1_J0 slices_IndexFunc_int_int_2_vf_impl_isState_1_O0) = slices_IndexFunc_int_int_2_vf_impl_isState_1_B0 p) ∧ True), by kernel_rfl, fun x y => by kernel_rfl⟩
theorem slices_IndexFunc_int_int_2_vf_impl_isState_1_s : slices_IndexFunc_int_int_2_vf_impl_isState_1_D.Says Try.prog := slices_IndexFunc_int_int_2_vf_impl_isState_1_w.says follows tabOk impl_isState_1_e_ok
noncomputable def slices_IndexFunc_int_int_2_vf_impl_isState_1_e : Env := more impl_isState_1_e slices_IndexFunc_int_int_2_vf_impl_isState_1_D
theorem slices_IndexFunc_int_int_2_vf_impl_isState_1_e_ok : EnvOk Try.prog slices_IndexFunc_int_int_2_vf_impl_isState_1_e := more_ok impl_isState_1_e_ok slices_IndexFunc_int_int_2_vf_impl_isState_1_s
/-! slices.ContainsFunc[[]int,int] -/
abbrev slices_ContainsFunc_int_int_2_vf_impl_isState_1_E : Ve.End := ⟨[⟨4, .shr, .bool, none⟩], []⟩
abbrev slices_ContainsFunc_int_int_2_vf_impl_isState_1_a : List ASh := [.val (.list I), .fn 151 []]
abbrev slices_ContainsFunc_int_int_2_vf_impl_isState_1_o : List OSh := []
noncomputable def slices_ContainsFunc_int_int_2_vf_impl_isState_1 : argP slices_ContainsFunc_int_int_2_vf_impl_isState_1_a → obP (extObs 0 slices_ContainsFunc_int_int_2_vf_impl_isState_1_o) → Option slices_ContainsFunc_int_int_2_vf_impl_isState_1_E.P
  | (s, ()), () => match slices_IndexFunc_int_int_2_vf_impl_isState_1 (s, ()) () with | some ((r, ()), ()) => some (((decide ((0 : Int) ≤ r)), ()), ()) | none => none
noncomputable def slices_ContainsFunc_int_int_2_vf_impl_isState_1_x : Cx := ⟨tab, slices_IndexFunc_int_int_2_vf_impl_isState_1_e, fun _ _ => 0, fun _ => false, [(7, 0), (7, 1), (7, 2), (7, 3)], []⟩
noncomputable def c122 : Code := bodyOf Try.f122
noncomputable def slices_ContainsFunc_int_int_2_vf_impl_isState_1_A : Ann := .nil
noncomputable def slices_ContainsFunc_int_int_2_vf_impl_isState_1_D : Ve.Fn := ⟨122, slices_ContainsFunc_int_int_2_vf_impl_isState_1_a, slices_ContainsFunc_int_int_2_vf_impl_isState_1_o, slices_ContainsFunc_int_int_2_vf_impl_isState_1_E, slices_ContainsFunc_int_int_2_vf_impl_isState_1⟩
theorem slices_ContainsFunc_int_int_2_vf_impl_isState_1_w : Walk Try.prog slices_ContainsFunc_int_int_2_vf_impl_isState_1_x slices_ContainsFunc_int_int_2_vf_impl_isState_1_D Try.f122 c122 9 slices_ContainsFunc_int_int_2_vf_impl_isState_1_A :=
  ⟨⟨Try.func122, by kernel_rfl, by kernel_rfl, by kernel_rfl, by decide, by kernel_rfl, Nat.le_of_ble_eq_true (by kernel_rfl)⟩, by kernel_rfl, by kernel_rfl, by kernel_rfl, kcast (by kernel_rfl) trivial, by kernel_rfl, fun x y => by kernel_rfl⟩
theorem slices_ContainsFunc_int_int_2_vf_impl_isState_1_s : slices_ContainsFunc_int_int_2_vf_impl_isState_1_D.Says Try.prog := slices_ContainsFunc_int_int_2_vf_impl_isState_1_w.says follows tabOk slices_IndexFunc_int_int_2_vf_impl_isState_1_e_ok
noncomputable def slices_ContainsFunc_int_int_2_vf_impl_isState_1_e : Env := more slices_IndexFunc_int_int_2_vf_impl_isState_1_e slices_ContainsFunc_int_int_2_vf_impl_isState_1_D
theorem slices_ContainsFunc_int_int_2_vf_impl_isState_1_e_ok : EnvOk Try.prog slices_ContainsFunc_int_int_2_vf_impl_isState_1_e := more_ok slices_IndexFunc_int_int_2_vf_impl_isState_1_e_ok slices_ContainsFunc_int_int_2_vf_impl_isState_1_s
/-! loop.example/g01128/impl.isState -/
abbrev impl_isState_E : Ve.End := ⟨[⟨2, .shr, .bool, none⟩], []⟩
abbrev impl_isState_a : List ASh := [.val (.list I)]
abbrev impl_isState_o : List OSh := []
noncomputable def impl_isState : argP impl_isState_a → obP (extObs 0 impl_isState_o) → Option impl_isState_E.P
  | (state, ()), () => bif (decide ((List.length state : Int) ≤ (24 : Int))) then (match slices_ContainsFunc_int_int_2_vf_impl_isState_1 (state, ()) () with | some ((r, ()), ()) => some (((!r), ()), ()) | none => none) else (some ((false, ()), ()))
noncomputable def impl_isState_x : Cx := ⟨tab, slices_ContainsFunc_int_int_2_vf_impl_isState_1_e, fun _ _ => 0, fun _ => false, [(8, 0), (8, 1), (8, 2), (8, 3)], []⟩
noncomputable def c116 : Code := bodyOf Try.f116
noncomputable def impl_isState_A : Ann := .nil
noncomputable def impl_isState_D : Ve.Fn := ⟨116, impl_isState_a, impl_isState_o, impl_isState_E, impl_isState⟩
theorem impl_isState_w : Walk Try.prog impl_isState_x impl_isState_D Try.f116 c116 11 impl_isState_A :=
  ⟨⟨Try.func116, by kernel_rfl, by kernel_rfl, by kernel_rfl, by decide, by kernel_rfl, Nat.le_of_ble_eq_true (by kernel_rfl)⟩, by kernel_rfl, by kernel_rfl, by kernel_rfl, kcast (by kernel_rfl) trivial, by kernel_rfl, fun x y => by kernel_rfl⟩
theorem impl_isState_s : impl_isState_D.Says Try.prog := impl_isState_w.says follows tabOk slices_ContainsFunc_int_int_2_vf_impl_isState_1_e_ok
noncomputable def impl_isState_e : Env := more slices_ContainsFunc_int_int_2_vf_impl_isState_1_e impl_isState_D
theorem impl_isState_e_ok : EnvOk Try.prog impl_isState_e := more_ok slices_ContainsFunc_int_int_2_vf_impl_isState_1_e_ok impl_isState_s
/-! cmp.isNaN[int] -/
abbrev cmp_isNaN_int_E : Ve.End := ⟨[⟨2, .shr, .bool, none⟩], []⟩
abbrev cmp_isNaN_int_a : List ASh := [.val I]
abbrev cmp_isNaN_int_o : List OSh := []
noncomputable def cmp_isNaN_int : argP cmp_isNaN_int_a → obP (extObs 0 cmp_isNaN_int_o) → Option cmp_isNaN_int_E.P
  | (x, ()), () => some (((x != x), ()), ())
noncomputable def cmp_isNaN_int_x : Cx := ⟨tab, impl_isState_e, fun _ _ => 0, fun _ => false, [], []⟩
noncomputable def c141 : Code := bodyOf Try.f141
noncomputable def cmp_isNaN_int_A : Ann := .nil
noncomputable def cmp_isNaN_int_D : Ve.Fn := ⟨141, cmp_isNaN_int_a, cmp_isNaN_int_o, cmp_isNaN_int_E, cmp_isNaN_int⟩
theorem cmp_isNaN_int_w : Walk Try.prog cmp_isNaN_int_x cmp_isNaN_int_D Try.f141 c141 6 cmp_isNaN_int_A :=
  ⟨⟨Try.func141, by kernel_rfl, by kernel_rfl, by kernel_rfl, by decide, by kernel_rfl, Nat.le_of_ble_eq_true (by kernel_rfl)⟩, by kernel_rfl, by kernel_rfl, by kernel_rfl, kcast (by kernel_rfl) trivial, by kernel_rfl, fun x y => by kernel_rfl⟩
theorem cmp_isNaN_int_s : cmp_isNaN_int_D.Says Try.prog := cmp_isNaN_int_w.says follows tabOk impl_isState_e_ok
noncomputable def cmp_isNaN_int_e : Env := more impl_isState_e cmp_isNaN_int_D
theorem cmp_isNaN_int_e_ok : EnvOk Try.prog cmp_isNaN_int_e := more_ok impl_isState_e_ok cmp_isNaN_int_s
/-! cmp.Compare[int] -/
abbrev cmp_Compare_int_E : Ve.End := ⟨[⟨4, .shr, I, none⟩], []⟩
abbrev cmp_Compare_int_a : List ASh := [.val I, .val I]
abbrev cmp_Compare_int_o : List OSh := []
noncomputable def cmp_Compare_int : argP cmp_Compare_int_a → obP (extObs 0 cmp_Compare_int_o) → Option cmp_Compare_int_E.P
  | (x, y, ()), () => match cmp_isNaN_int (x, ()) () with | some ((r, ()), ()) => (match cmp_isNaN_int (y, ()) () with | some ((r2, ()), ()) => (bif r then (bif r2 then (some (((0 : Int), ()), ())) else (some (((-1 : Int), ()), ()))) else (bif r2 then (some (((1 : Int), ()), ())) else (bif (decide (x < y)) then (some (((-1 : Int), ()), ())) else (bif (decide (y < x)) then (some (((1 : Int), ()), ())) else (some (((0 : Int), ()), ())))))) | none => none) | none => none
noncomputable def cmp_Compare_int_x : Cx := ⟨tab, cmp_isNaN_int_e, fun _ _ => 0, fun _ => false, [(8, 0), (8, 1), (8, 2), (8, 3), (10, 0), (10, 1), (10, 2), (10, 3)], []⟩
noncomputable def c94 : Code := bodyOf Try.f94
noncomputable def cmp_Compare_int_A : Ann := .nil
noncomputable def cmp_Compare_int_D : Ve.Fn := ⟨94, cmp_Compare_int_a, cmp_Compare_int_o, cmp_Compare_int_E, cmp_Compare_int⟩
theorem cmp_Compare_int_w : Walk Try.prog cmp_Compare_int_x cmp_Compare_int_D Try.f94 c94 20 cmp_Compare_int_A :=
  ⟨⟨Try.func94, by kernel_rfl, by kernel_rfl, by kernel_rfl, by decide, by kernel_rfl, Nat.le_of_ble_eq_true (by kernel_rfl)⟩, by kernel_rfl, by kernel_rfl, by kernel_rfl, kcast (by kernel_rfl) trivial, by kernel_rfl, fun x y => by kernel_rfl⟩
theorem cmp_Compare_int_s : cmp_Compare_int_D.Says Try.prog := cmp_Compare_int_w.says follows tabOk cmp_isNaN_int_e_ok
noncomputable def cmp_Compare_int_e : Env := more cmp_isNaN_int_e cmp_Compare_int_D
theorem cmp_Compare_int_e_ok : EnvOk Try.prog cmp_Compare_int_e := more_ok cmp_isNaN_int_e_ok cmp_Compare_int_s
/-! slices.Compare[[]int,int] -/
abbrev slices_Compare_int_int_J0 : Tpl := ⟨[(0, .val (.list I)), (1, .val (.list I)), (9, .val (.list I)), (10, .val I), (11, .val I)], [], []⟩
abbrev slices_Compare_int_int_J1 : Tpl := ⟨[(4, .val I)], [], []⟩
abbrev slices_Compare_int_int_J2 : Tpl := ⟨[(0, .val (.list I)), (1, .val (.list I))], [], []⟩
abbrev slices_Compare_int_int_E : Ve.End := ⟨[⟨4, .shr, I, none⟩], []⟩
abbrev slices_Compare_int_int_a : List ASh := [.val (.list I), .val (.list I)]
abbrev slices_Compare_int_int_o : List OSh := []
abbrev slices_Compare_int_int_O0 : Out := .or .ret slices_Compare_int_int_J1 (.one (.ex 0) slices_Compare_int_int_J2)
noncomputable def slices_Compare_int_int_B0 : slices_Compare_int_int_J0.P → Option (slices_Compare_int_int_J0.P ⊕ slices_Compare_int_int_O0.P)
  | ((s1, s2, t9, t10, t11, ()), ()) => bif (decide (t11 < t10)) then (guardB (inb t11 (List.length t9)) (bif (decide ((List.length s2 : Int) ≤ t11)) then (some (.inr (.inl (((1 : Int), ()), ())))) else (guardB (inb t11 (List.length s2)) (match cmp_Compare_int ((List.getD t9 (Int.toNat t11) (0 : Int)), (List.getD s2 (Int.toNat t11) (0 : Int)), ()) () with | some ((r, ()), ()) => (bif (r != (0 : Int)) then (some (.inr (.inl ((r, ()), ())))) else (some (.inl ((s1, s2, t9, t10, (w64 (t11 + (1 : Int))), ()), ())))) | none => none)))) else (some (.inr (.inr ((s1, s2, ()), ()))))
noncomputable def slices_Compare_int_int : argP slices_Compare_int_int_a → obP (extObs 0 slices_Compare_int_int_o) → Option slices_Compare_int_int_E.P
  | (s1, s2, ()), () => match loopO slices_Compare_int_int_B0 ((s1, s2, s1, (List.length s1 : Int), (0 : Int), ()), ()) with | some (.inl ((t4, ()), ())) => some ((t4, ()), ()) | some (.inr ((s1_2, s2_2, ()), ())) => (bif (decide ((List.length s1_2 : Int) < (List.length s2_2 : Int))) then (some (((-1 : Int), ()), ())) else (some (((0 : Int), ()), ()))) | none => none
noncomputable def slices_Compare_int_int_x : Cx := ⟨tab, cmp_Compare_int_e, fun _ _ => 0, fun _ => false, [(26, 0), (26, 1), (26, 2), (26, 3)], []⟩
noncomputable def c117 : Code := bodyOf Try.f117
noncomputable def slices_Compare_int_int_A : Ann := .seq .nil (.seq (.seq .nil (.loop slices_Compare_int_int_J0 slices_Compare_int_int_O0 slices_Compare_int_int_B0 .nil)) .nil)
theorem slices_Compare_int_int_r0 (p : slices_Compare_int_int_J0.P) : run slices_Compare_int_int_x (subc [1, 0, 1, 0, 0] c117) .nil (slices_Compare_int_int_J0.S p) (leaf slices_Compare_int_int_J0 slices_Compare_int_int_O0) = slices_Compare_int_int_B0 p := by kernel_rfl
noncomputable def slices_Compare_int_int_D : Ve.Fn := ⟨117, slices_Compare_int_int_a, slices_Compare_int_int_o, slices_Compare_int_int_E, slices_Compare_int_int⟩
theorem slices_Compare_int_int_w : Walk Try.prog slices_Compare_int_int_x slices_Compare_int_int_D Try.f117 c117 36 slices_Compare_int_int_A :=
  ⟨⟨Try.func117, by kernel_rfl, by kernel_rfl, by kernel_rfl, by decide, by kernel_rfl, Nat.le_of_ble_eq_true (by kernel_rfl)⟩, by kernel_rfl, by kernel_rfl, by kernel_rfl, kcast (by kernel_rfl) (⟨slices_Compare_int_int_r0, trivial⟩ : (∀ p, run slices_Compare_int_int_x (subc [1, 0, 1, 0, 0] c117) .nil (slices_Compare_int_int_J0.S p) (leaf slices_Compare_int_int_J0 slices_Compare_int_int_O0) = slices_Compare_int_int_B0 p) ∧ True), by kernel_rfl, fun x y => by kernel_rfl⟩
theorem slices_Compare_int_int_s : slices_Compare_int_int_D.Says Try.prog := slices_Compare_int_int_w.says follows tabOk cmp_Compare_int_e_ok
noncomputable def slices_Compare_int_int_e : Env := more cmp_Compare_int_e slices_Compare_int_int_D
theorem slices_Compare_int_int_e_ok : EnvOk Try.prog slices_Compare_int_int_e := more_ok cmp_Compare_int_e_ok slices_Compare_int_int_s
/-! cmp.Or[int] -/
abbrev cmp_Or_int_J0 : Tpl := ⟨[(3, .val I), (6, .val (.list I)), (7, .val I), (8, .val I)], [], []⟩
abbrev cmp_Or_int_J1 : Tpl := ⟨[(2, .val I)], [], []⟩
abbrev cmp_Or_int_J2 : Tpl := ⟨[(3, .val I)], [], []⟩
abbrev cmp_Or_int_E : Ve.End := ⟨[⟨2, .shr, I, none⟩], []⟩
abbrev cmp_Or_int_a : List ASh := [.val (.list I)]
abbrev cmp_Or_int_o : List OSh := []
abbrev cmp_Or_int_O0 : Out := .or .ret cmp_Or_int_J1 (.one (.ex 0) cmp_Or_int_J2)
noncomputable def cmp_Or_int_B0 : cmp_Or_int_J0.P → Option (cmp_Or_int_J0.P ⊕ cmp_Or_int_O0.P)
  | ((zero_, t6, t7, t8, ()), ()) => bif (decide (t8 < t7)) then (guardB (inb t8 (List.length t6)) (bif ((List.getD t6 (Int.toNat t8) (0 : Int)) != zero_) then (some (.inr (.inl (((List.getD t6 (Int.toNat t8) (0 : Int)), ()), ())))) else (some (.inl ((zero_, t6, t7, (w64 (t8 + (1 : Int))), ()), ()))))) else (some (.inr (.inr ((zero_, ()), ()))))
noncomputable def cmp_Or_int : argP cmp_Or_int_a → obP (extObs 0 cmp_Or_int_o) → Option cmp_Or_int_E.P
  | (vals, ()), () => match loopO cmp_Or_int_B0 (((0 : Int), vals, (List.length vals : Int), (0 : Int), ()), ()) with | some (.inl ((t2, ()), ())) => some ((t2, ()), ()) | some (.inr ((zero_, ()), ())) => some ((zero_, ()), ()) | none => none
noncomputable def cmp_Or_int_x : Cx := ⟨tab, slices_Compare_int_int_e, fun _ _ => 0, fun _ => false, [], []⟩
noncomputable def c157 : Code := bodyOf Try.f157
noncomputable def cmp_Or_int_A : Ann := .seq .nil (.seq .nil (.seq (.seq .nil (.loop cmp_Or_int_J0 cmp_Or_int_O0 cmp_Or_int_B0 .nil)) .nil))
theorem cmp_Or_int_r0 (p : cmp_Or_int_J0.P) : run cmp_Or_int_x (subc [1, 1, 0, 1, 0, 0] c157) .nil (cmp_Or_int_J0.S p) (leaf cmp_Or_int_J0 cmp_Or_int_O0) = cmp_Or_int_B0 p := by kernel_rfl
noncomputable def cmp_Or_int_D : Ve.Fn := ⟨157, cmp_Or_int_a, cmp_Or_int_o, cmp_Or_int_E, cmp_Or_int⟩
theorem cmp_Or_int_w : Walk Try.prog cmp_Or_int_x cmp_Or_int_D Try.f157 c157 18 cmp_Or_int_A :=
  ⟨⟨Try.func157, by kernel_rfl, by kernel_rfl, by kernel_rfl, by decide, by kernel_rfl, Nat.le_of_ble_eq_true (by kernel_rfl)⟩, by kernel_rfl, by kernel_rfl, by kernel_rfl, kcast (by kernel_rfl) (⟨cmp_Or_int_r0, trivial⟩ : (∀ p, run cmp_Or_int_x (subc [1, 1, 0, 1, 0, 0] c157) .nil (cmp_Or_int_J0.S p) (leaf cmp_Or_int_J0 cmp_Or_int_O0) = cmp_Or_int_B0 p) ∧ True), by kernel_rfl, fun x y => by kernel_rfl⟩
theorem cmp_Or_int_s : cmp_Or_int_D.Says Try.prog := cmp_Or_int_w.says follows tabOk slices_Compare_int_int_e_ok
noncomputable def cmp_Or_int_e : Env := more slices_Compare_int_int_e cmp_Or_int_D
theorem cmp_Or_int_e_ok : EnvOk Try.prog cmp_Or_int_e := more_ok slices_Compare_int_int_e_ok cmp_Or_int_s
/-! loop.example/g01128/impl.comparePairs -/
abbrev impl_comparePairs_E : Ve.End := ⟨[⟨4, .shr, I, none⟩], []⟩
abbrev impl_comparePairs_a : List ASh := [.val (.prod I I), .val (.prod I I)]
abbrev impl_comparePairs_o : List OSh := []
noncomputable def impl_comparePairs : argP impl_comparePairs_a → obP (extObs 0 impl_comparePairs_o) → Option impl_comparePairs_E.P
  | (a, b, ()), () => match cmp_Compare_int (a.1, b.1, ()) () with | some ((r, ()), ()) => (match cmp_Compare_int (a.2, b.2, ()) () with | some ((r2, ()), ()) => (match cmp_Or_int ([r, r2], ()) () with | some ((r3, ()), ()) => some ((r3, ()), ()) | none => none) | none => none) | none => none
noncomputable def impl_comparePairs_x : Cx := ⟨tab, cmp_Or_int_e, fun _ _ => 0, fun _ => false, [(9, 0), (9, 1), (9, 2), (9, 3), (14, 0), (14, 1), (14, 2), (14, 3), (15, 0), (16, 0), (16, 1), (16, 2), (16, 3)], [(2, 0), (3, 0)]⟩
noncomputable def c137 : Code := bodyOf Try.f137
noncomputable def impl_comparePairs_A : Ann := .seq .nil (.seq (.draw [(0, .flo), (1, .flo), (2, .flo), (3, .flo), (5, .flo), (6, .flo), (7, .flo), (8, .flo), (4, .sole), (9, .sole), (10, .sole), (11, .sole), (12, .flo)]) .nil)
noncomputable def impl_comparePairs_D : Ve.Fn := ⟨137, impl_comparePairs_a, impl_comparePairs_o, impl_comparePairs_E, impl_comparePairs⟩
theorem impl_comparePairs_w : Walk Try.prog impl_comparePairs_x impl_comparePairs_D Try.f137 c137 17 impl_comparePairs_A :=
  ⟨⟨Try.func137, by kernel_rfl, by kernel_rfl, by kernel_rfl, by decide, by kernel_rfl, Nat.le_of_ble_eq_true (by kernel_rfl)⟩, by kernel_rfl, by kernel_rfl, by kernel_rfl, kcast (by kernel_rfl) trivial, by kernel_rfl, fun x y => by kernel_rfl⟩
theorem impl_comparePairs_s : impl_comparePairs_D.Says Try.prog := impl_comparePairs_w.says follows tabOk cmp_Or_int_e_ok
noncomputable def impl_comparePairs_e : Env := more cmp_Or_int_e impl_comparePairs_D
theorem impl_comparePairs_e_ok : EnvOk Try.prog impl_comparePairs_e := more_ok cmp_Or_int_e_ok impl_comparePairs_s
/-! loop.example/g01128/impl.isPairs -/
abbrev impl_isPairs_J0 : Tpl := ⟨[(0, .val (.list (.prod I I))), (1, .val I), (7, .val (.list (.prod I I))), (8, .val I), (9, .val I)], [], []⟩
abbrev impl_isPairs_J1 : Tpl := ⟨[(4, .val .bool)], [], []⟩
abbrev impl_isPairs_J2 : Tpl := ⟨[], [], []⟩
abbrev impl_isPairs_E : Ve.End := ⟨[⟨4, .shr, .bool, none⟩], []⟩
abbrev impl_isPairs_a : List ASh := [.val (.list (.prod I I)), .val I]
abbrev impl_isPairs_o : List OSh := []
abbrev impl_isPairs_O0 : Out := .or .ret impl_isPairs_J1 (.one (.ex 0) impl_isPairs_J2)
noncomputable def impl_isPairs_B0 : impl_isPairs_J0.P → Option (impl_isPairs_J0.P ⊕ impl_isPairs_O0.P)
  | ((list, below, t7, t8, t9, ()), ()) => bif (decide (t9 < t8)) then (guardB (inb t9 (List.length t7)) (bif (decide (((List.getD t7 (Int.toNat t9) ((0 : Int), (0 : Int))).1) < (0 : Int))) then (some (.inr (.inl ((false, ()), ())))) else (bif (decide (((List.getD t7 (Int.toNat t9) ((0 : Int), (0 : Int))).2) ≤ ((List.getD t7 (Int.toNat t9) ((0 : Int), (0 : Int))).1))) then (some (.inr (.inl ((false, ()), ())))) else (bif (decide (below ≤ ((List.getD t7 (Int.toNat t9) ((0 : Int), (0 : Int))).2))) then (some (.inr (.inl ((false, ()), ())))) else (bif (decide ((0 : Int) < t9)) then (guardB (inb (w64 (t9 - (1 : Int))) (List.length list)) (match impl_comparePairs ((List.getD list (Int.toNat (w64 (t9 - (1 : Int)))) ((0 : Int), (0 : Int))), (List.getD t7 (Int.toNat t9) ((0 : Int), (0 : Int))), ()) () with | some ((r, ()), ()) => (bif (decide ((0 : Int) ≤ r)) then (some (.inr (.inl ((false, ()), ())))) else (some (.inl ((list, below, t7, t8, (w64 (t9 + (1 : Int))), ()), ())))) | none => none)) else (some (.inl ((list, below, t7, t8, (w64 (t9 + (1 : Int))), ()), ())))))))) else (some (.inr (.inr ((), ()))))
noncomputable def impl_isPairs : argP impl_isPairs_a → obP (extObs 0 impl_isPairs_o) → Option impl_isPairs_E.P
  | (list, below, ()), () => match loopO impl_isPairs_B0 ((list, below, list, (List.length list : Int), (0 : Int), ()), ()) with | some (.inl ((t4, ()), ())) => some ((t4, ()), ()) | some (.inr ((), ())) => some ((true, ()), ()) | none => none
noncomputable def impl_isPairs_x : Cx := ⟨tab, impl_comparePairs_e, fun _ _ => 0, fun _ => false, [(40, 0), (40, 1), (40, 2), (40, 3)], [(6, 0)]⟩
noncomputable def c118 : Code := bodyOf Try.f118
noncomputable def impl_isPairs_A : Ann := .seq .nil (.seq (.seq .nil (.loop impl_isPairs_J0 impl_isPairs_O0 impl_isPairs_B0 (.seq .nil (.seq .nil (.seq (.seq .nil (.seq (.draw [(0, .flo), (1, .flo), (2, .flo), (3, .flo), (4, .flo), (6, .flo), (5, .qui), (7, .qui), (8, .flo), (9, .flo), (10, .flo), (11, .flo), (13, .flo), (12, .qui), (14, .flo), (15, .flo), (16, .flo), (17, .flo), (18, .flo), (19, .flo), (20, .flo), (21, .flo), (22, .flo), (23, .flo), (24, .qui), (25, .qui), (26, .sole), (27, .flo), (28, .flo), (29, .flo)]) .nil)) .nil))))) .nil)
theorem impl_isPairs_r0 (p : impl_isPairs_J0.P) : run impl_isPairs_x (subc [1, 0, 1, 0, 0] c118) (.seq .nil (.seq .nil (.seq (.seq .nil (.seq (.draw [(0, .flo), (1, .flo), (2, .flo), (3, .flo), (4, .flo), (6, .flo), (5, .qui), (7, .qui), (8, .flo), (9, .flo), (10, .flo), (11, .flo), (13, .flo), (12, .qui), (14, .flo), (15, .flo), (16, .flo), (17, .flo), (18, .flo), (19, .flo), (20, .flo), (21, .flo), (22, .flo), (23, .flo), (24, .qui), (25, .qui), (26, .sole), (27, .flo), (28, .flo), (29, .flo)]) .nil)) .nil))) (impl_isPairs_J0.S p) (leaf impl_isPairs_J0 impl_isPairs_O0) = impl_isPairs_B0 p := by kernel_rfl
noncomputable def impl_isPairs_D : Ve.Fn := ⟨118, impl_isPairs_a, impl_isPairs_o, impl_isPairs_E, impl_isPairs⟩
theorem impl_isPairs_w : Walk Try.prog impl_isPairs_x impl_isPairs_D Try.f118 c118 45 impl_isPairs_A :=
  ⟨⟨Try.func118, by kernel_rfl, by kernel_rfl, by kernel_rfl, by decide, by kernel_rfl, Nat.le_of_ble_eq_true (by kernel_rfl)⟩, by kernel_rfl, by kernel_rfl, by kernel_rfl, kcast (by kernel_rfl) (⟨impl_isPairs_r0, trivial⟩ : (∀ p, run impl_isPairs_x (subc [1, 0, 1, 0, 0] c118) (.seq .nil (.seq .nil (.seq (.seq .nil (.seq (.draw [(0, .flo), (1, .flo), (2, .flo), (3, .flo), (4, .flo), (6, .flo), (5, .qui), (7, .qui), (8, .flo), (9, .flo), (10, .flo), (11, .flo), (13, .flo), (12, .qui), (14, .flo), (15, .flo), (16, .flo), (17, .flo), (18, .flo), (19, .flo), (20, .flo), (21, .flo), (22, .flo), (23, .flo), (24, .qui), (25, .qui), (26, .sole), (27, .flo), (28, .flo), (29, .flo)]) .nil)) .nil))) (impl_isPairs_J0.S p) (leaf impl_isPairs_J0 impl_isPairs_O0) = impl_isPairs_B0 p) ∧ True), by kernel_rfl, fun x y => by kernel_rfl⟩
theorem impl_isPairs_s : impl_isPairs_D.Says Try.prog := impl_isPairs_w.says follows tabOk impl_comparePairs_e_ok
noncomputable def impl_isPairs_e : Env := more impl_comparePairs_e impl_isPairs_D
theorem impl_isPairs_e_ok : EnvOk Try.prog impl_isPairs_e := more_ok impl_comparePairs_e_ok impl_isPairs_s
/-! loop.example/g01128/impl.IsSpace -/
abbrev impl_IsSpace_J0 : Tpl := ⟨[(1, .cst (.prod (.list (.list I)) (.list (.prod I I)))), (16, .val (.list (.list I))), (17, .val I), (18, .val I)], [], []⟩
abbrev impl_IsSpace_J1 : Tpl := ⟨[(2, .val .bool)], [], []⟩
abbrev impl_IsSpace_J2 : Tpl := ⟨[(1, .cst (.prod (.list (.list I)) (.list (.prod I I))))], [], []⟩
abbrev impl_IsSpace_E : Ve.End := ⟨[⟨2, .shr, .bool, none⟩], []⟩
abbrev impl_IsSpace_a : List ASh := [.val (.prod (.list (.list I)) (.list (.prod I I)))]
abbrev impl_IsSpace_o : List OSh := []
abbrev impl_IsSpace_O0 : Out := .or .ret impl_IsSpace_J1 (.one (.ex 0) impl_IsSpace_J2)
noncomputable def impl_IsSpace_B0 : impl_IsSpace_J0.P → Option (impl_IsSpace_J0.P ⊕ impl_IsSpace_O0.P)
  | ((x, t16, t17, t18, ()), ()) => bif (decide (t18 < t17)) then (guardB (inb t18 (List.length t16)) (match impl_isState ((List.getD t16 (Int.toNat t18) ([] : (List Int))), ()) () with | some ((r, ()), ()) => (bif (!r) then (some (.inr (.inl ((false, ()), ())))) else (bif (decide ((0 : Int) < t18)) then (guardB (inb (w64 (t18 - (1 : Int))) (List.length x.1)) (match slices_Compare_int_int ((List.getD x.1 (Int.toNat (w64 (t18 - (1 : Int)))) ([] : (List Int))), (List.getD t16 (Int.toNat t18) ([] : (List Int))), ()) () with | some ((r2, ()), ()) => (bif (decide ((0 : Int) ≤ r2)) then (some (.inr (.inl ((false, ()), ())))) else (some (.inl ((x, t16, t17, (w64 (t18 + (1 : Int))), ()), ())))) | none => none)) else (some (.inl ((x, t16, t17, (w64 (t18 + (1 : Int))), ()), ()))))) | none => none)) else (some (.inr (.inr ((x, ()), ()))))
noncomputable def impl_IsSpace : argP impl_IsSpace_a → obP (extObs 0 impl_IsSpace_o) → Option impl_IsSpace_E.P
  | (x, ()), () => bif (decide ((300 : Int) < (List.length x.1 : Int))) then (some ((false, ()), ())) else (bif (decide ((6000 : Int) < (List.length x.2 : Int))) then (some ((false, ()), ())) else (match loopO impl_IsSpace_B0 ((x, x.1, (List.length x.1 : Int), (0 : Int), ()), ()) with | some (.inl ((t2, ()), ())) => some ((t2, ()), ()) | some (.inr ((x2, ()), ())) => (match impl_isPairs (x2.2, (List.length x2.1 : Int), ()) () with | some ((r, ()), ()) => some ((r, ()), ()) | none => none) | none => none))
noncomputable def impl_IsSpace_x : Cx := ⟨tab, impl_isPairs_e, fun _ _ => 0, fun _ => false, [(4, 0), (24, 0), (24, 1), (24, 2), (24, 3), (37, 0), (37, 1), (37, 2), (37, 3), (47, 0), (47, 1), (47, 2), (47, 3)], [(1, 0)]⟩
noncomputable def c56 : Code := bodyOf Try.f56
noncomputable def impl_IsSpace_A : Ann := .seq .nil (.seq .nil (.seq (.seq .nil (.loop impl_IsSpace_J0 impl_IsSpace_O0 impl_IsSpace_B0 .nil)) .nil))
theorem impl_IsSpace_r0 (p : impl_IsSpace_J0.P) : run impl_IsSpace_x (subc [1, 1, 0, 1, 0, 0] c56) .nil (impl_IsSpace_J0.S p) (leaf impl_IsSpace_J0 impl_IsSpace_O0) = impl_IsSpace_B0 p := by kernel_rfl
noncomputable def impl_IsSpace_D : Ve.Fn := ⟨56, impl_IsSpace_a, impl_IsSpace_o, impl_IsSpace_E, impl_IsSpace⟩
theorem impl_IsSpace_w : Walk Try.prog impl_IsSpace_x impl_IsSpace_D Try.f56 c56 48 impl_IsSpace_A :=
  ⟨⟨Try.func56, by kernel_rfl, by kernel_rfl, by kernel_rfl, by decide, by kernel_rfl, Nat.le_of_ble_eq_true (by kernel_rfl)⟩, by kernel_rfl, by kernel_rfl, by kernel_rfl, kcast (by kernel_rfl) (⟨impl_IsSpace_r0, trivial⟩ : (∀ p, run impl_IsSpace_x (subc [1, 1, 0, 1, 0, 0] c56) .nil (impl_IsSpace_J0.S p) (leaf impl_IsSpace_J0 impl_IsSpace_O0) = impl_IsSpace_B0 p) ∧ True), by kernel_rfl, fun x y => by kernel_rfl⟩
theorem impl_IsSpace_s : impl_IsSpace_D.Says Try.prog := impl_IsSpace_w.says follows tabOk impl_isPairs_e_ok
noncomputable def impl_IsSpace_e : Env := more impl_isPairs_e impl_IsSpace_D
theorem impl_IsSpace_e_ok : EnvOk Try.prog impl_IsSpace_e := more_ok impl_isPairs_e_ok impl_IsSpace_s
/-! loop.example/g01128/impl.areLoads$1 -/
abbrev impl_areLoads_1_E : Ve.End := ⟨[⟨2, .shr, .bool, none⟩], []⟩
abbrev impl_areLoads_1_a : List ASh := [.val I]
abbrev impl_areLoads_1_o : List OSh := []
noncomputable def impl_areLoads_1 : argP impl_areLoads_1_a → obP (extObs 0 impl_areLoads_1_o) → Option impl_areLoads_1_E.P
  | (n, ()), () => match impl_between (n, (0 : Int), (999 : Int), ()) () with | some ((r, ()), ()) => some (((!r), ()), ()) | none => none
noncomputable def impl_areLoads_1_x : Cx := ⟨tab, impl_IsSpace_e, fun _ _ => 0, fun _ => false, [(4, 0), (4, 1), (4, 2), (4, 3)], []⟩
noncomputable def c155 : Code := bodyOf Try.f155
noncomputable def impl_areLoads_1_A : Ann := .nil
noncomputable def impl_areLoads_1_D : Ve.Fn := ⟨155, impl_areLoads_1_a, impl_areLoads_1_o, impl_areLoads_1_E, impl_areLoads_1⟩
theorem impl_areLoads_1_w : Walk Try.prog impl_areLoads_1_x impl_areLoads_1_D Try.f155 c155 6 impl_areLoads_1_A :=
  ⟨⟨Try.func155, by kernel_rfl, by kernel_rfl, by kernel_rfl, by decide, by kernel_rfl, Nat.le_of_ble_eq_true (by kernel_rfl)⟩, by kernel_rfl, by kernel_rfl, by kernel_rfl, kcast (by kernel_rfl) trivial, by kernel_rfl, fun x y => by kernel_rfl⟩
theorem impl_areLoads_1_s : impl_areLoads_1_D.Says Try.prog := impl_areLoads_1_w.says follows tabOk impl_IsSpace_e_ok
noncomputable def impl_areLoads_1_e : Env := more impl_IsSpace_e impl_areLoads_1_D
theorem impl_areLoads_1_e_ok : EnvOk Try.prog impl_areLoads_1_e := more_ok impl_IsSpace_e_ok impl_areLoads_1_s
/-! slices.IndexFunc[[]int,int] -/
abbrev slices_IndexFunc_int_int_2_vf_impl_areLoads_1_J0 : Tpl := ⟨[(0, .val (.list I)), (1, .fn ⟨155, []⟩), (7, .val I), (8, .val I)], [], []⟩
abbrev slices_IndexFunc_int_int_2_vf_impl_areLoads_1_J1 : Tpl := ⟨[(4, .val I)], [], []⟩
abbrev slices_IndexFunc_int_int_2_vf_impl_areLoads_1_J2 : Tpl := ⟨[], [], []⟩
abbrev slices_IndexFunc_int_int_2_vf_impl_areLoads_1_E : Ve.End := ⟨[⟨4, .shr, I, none⟩], []⟩
abbrev slices_IndexFunc_int_int_2_vf_impl_areLoads_1_a : List ASh := [.val (.list I), .fn 155 []]
abbrev slices_IndexFunc_int_int_2_vf_impl_areLoads_1_o : List OSh := []
abbrev slices_IndexFunc_int_int_2_vf_impl_areLoads_1_O0 : Out := .or .ret slices_IndexFunc_int_int_2_vf_impl_areLoads_1_J1 (.one (.ex 0) slices_IndexFunc_int_int_2_vf_impl_areLoads_1_J2)
noncomputable def slices_IndexFunc_int_int_2_vf_impl_areLoads_1_B0 : slices_IndexFunc_int_int_2_vf_impl_areLoads_1_J0.P → Option (slices_IndexFunc_int_int_2_vf_impl_areLoads_1_J0.P ⊕ slices_IndexFunc_int_int_2_vf_impl_areLoads_1_O0.P)
  | ((s, t7, t8, ()), ()) => bif (decide (t8 < t7)) then (guardB (inb t8 (List.length s)) (match impl_areLoads_1 ((List.getD s (Int.toNat t8) (0 : Int)), ()) () with | some ((r, ()), ()) => (bif r then (some (.inr (.inl ((t8, ()), ())))) else (some (.inl ((s, t7, (w64 (t8 + (1 : Int))), ()), ())))) | none => none)) else (some (.inr (.inr ((), ()))))
noncomputable def slices_IndexFunc_int_int_2_vf_impl_areLoads_1 : argP slices_IndexFunc_int_int_2_vf_impl_areLoads_1_a → obP (extObs 0 slices_IndexFunc_int_int_2_vf_impl_areLoads_1_o) → Option slices_IndexFunc_int_int_2_vf_impl_areLoads_1_E.P
  | (s, ()), () => match loopO slices_IndexFunc_int_int_2_vf_impl_areLoads_1_B0 ((s, (List.length s : Int), (0 : Int), ()), ()) with | some (.inl ((t4, ()), ())) => some ((t4, ()), ()) | some (.inr ((), ())) => some (((-1 : Int), ()), ()) | none => none
noncomputable def slices_IndexFunc_int_int_2_vf_impl_areLoads_1_x : Cx := ⟨tab, impl_areLoads_1_e, fun _ _ => 0, fun _ => false, [(16, 0), (16, 1), (16, 2), (16, 3)], []⟩
noncomputable def slices_IndexFunc_int_int_2_vf_impl_areLoads_1_A : Ann := .seq .nil (.seq (.seq .nil (.loop slices_IndexFunc_int_int_2_vf_impl_areLoads_1_J0 slices_IndexFunc_int_int_2_vf_impl_areLoads_1_O0 slices_IndexFunc_int_int_2_vf_impl_areLoads_1_B0 .nil)) .nil)
theorem slices_IndexFunc_int_int_2_vf_impl_areLoads_1_r0 (p : slices_IndexFunc_int_int_2_vf_impl_areLoads_1_J0.P) : run slices_IndexFunc_int_int_2_vf_impl_areLoads_1_x (subc [1, 0, 1, 0, 0] c154) .nil (slices_IndexFunc_int_int_2_vf_impl_areLoads_1_J0.S p) (leaf slices_IndexFunc_int_int_2_vf_impl_areLoads_1_J0 slices_IndexFunc_int_int_2_vf_impl_areLoads_1_O0) = slices_IndexFunc_int_int_2_vf_impl_areLoads_1_B0 p := by kernel_rfl
noncomputable def slices_IndexFunc_int_int_2_vf_impl_areLoads_1_D : Ve.Fn := ⟨154, slices_IndexFunc_int_int_2_vf_impl_areLoads_1_a, slices_IndexFunc_int_int_2_vf_impl_areLoads_1_o, slices_IndexFunc_int_int_2_vf_impl_areLoads_1_E, slices_IndexFunc_int_int_2_vf_impl_areLoads_1⟩
theorem slices_IndexFunc_int_int_2_vf_impl_areLoads_1_w : Walk Try.prog slices_IndexFunc_int_int_2_vf_impl_areLoads_1_x slices_IndexFunc_int_int_2_vf_impl_areLoads_1_D Try.f154 c154 19 slices_IndexFunc_int_int_2_vf_impl_areLoads_1_A :=
  ⟨⟨Try.func154, by kernel_rfl, by kernel_rfl, by kernel_rfl, by decide, by kernel_rfl, Nat.le_of_ble_eq_true (by kernel_rfl)⟩, by kernel_rfl, by kernel_rfl, by kernel_rfl, kcast (by kernel_rfl) (⟨slices_IndexFunc_int_int_2_vf_impl_areLoads_1_r0, trivial⟩ : (∀ p, run slices_IndexFunc_int_int_2_vf_impl_areLoads_1_x (subc [1, 0, 1, 0, 0] c154) .nil (slices_IndexFunc_int_int_2_vf_impl_areLoads_1_J0.S p) (leaf slices_IndexFunc_int_int_2_vf_impl_areLoads_1_J0 slices_IndexFunc_int_int_2_vf_impl_areLoads_1_O0) = slices_IndexFunc_int_int_2_vf_impl_areLoads_1_B0 p) ∧ True), by kernel_rfl, fun x y => by kernel_rfl⟩
theorem slices_IndexFunc_int_int_2_vf_impl_areLoads_1_s : slices_IndexFunc_int_int_2_vf_impl_areLoads_1_D.Says Try.prog := slices_IndexFunc_int_int_2_vf_impl_areLoads_1_w.says follows tabOk impl_areLoads_1_e_ok
noncomputable def slices_IndexFunc_int_int_2_vf_impl_areLoads_1_e : Env := more impl_areLoads_1_e slices_IndexFunc_int_int_2_vf_impl_areLoads_1_D
theorem slices_IndexFunc_int_int_2_vf_impl_areLoads_1_e_ok : EnvOk Try.prog slices_IndexFunc_int_int_2_vf_impl_areLoads_1_e := more_ok impl_areLoads_1_e_ok slices_IndexFunc_int_int_2_vf_impl_areLoads_1_s
/-! slices.ContainsFunc[[]int,int] -/
abbrev slices_ContainsFunc_int_int_2_vf_impl_areLoads_1_E : Ve.End := ⟨[⟨4, .shr, .bool, none⟩], []⟩
abbrev slices_ContainsFunc_int_int_2_vf_impl_areLoads_1_a : List ASh := [.val (.list I), .fn 155 []]
abbrev slices_ContainsFunc_int_int_2_vf_impl_areLoads_1_o : List OSh := []
noncomputable def slices_ContainsFunc_int_int_2_vf_impl_areLoads_1 : argP slices_ContainsFunc_int_int_2_vf_impl_areLoads_1_a → obP (extObs 0 slices_ContainsFunc_int_int_2_vf_impl_areLoads_1_o) → Option slices_ContainsFunc_int_int_2_vf_impl_areLoads_1_E.P
  | (s, ()), () => match slices_IndexFunc_int_int_2_vf_impl_areLoads_1 (s, ()) () with | some ((r, ()), ()) => some (((decide ((0 : Int) ≤ r)), ()), ()) | none => none
noncomputable def slices_ContainsFunc_int_int_2_vf_impl_areLoads_1_x : Cx := ⟨tab, slices_IndexFunc_int_int_2_vf_impl_areLoads_1_e, fun _ _ => 0, fun _ => false, [(7, 0), (7, 1), (7, 2), (7, 3)], []⟩
noncomputable def slices_ContainsFunc_int_int_2_vf_impl_areLoads_1_A : Ann := .nil
noncomputable def slices_ContainsFunc_int_int_2_vf_impl_areLoads_1_D : Ve.Fn := ⟨122, slices_ContainsFunc_int_int_2_vf_impl_areLoads_1_a, slices_ContainsFunc_int_int_2_vf_impl_areLoads_1_o, slices_ContainsFunc_int_int_2_vf_impl_areLoads_1_E, slices_ContainsFunc_int_int_2_vf_impl_areLoads_1⟩
theorem slices_ContainsFunc_int_int_2_vf_impl_areLoads_1_w : Walk Try.prog slices_ContainsFunc_int_int_2_vf_impl_areLoads_1_x slices_ContainsFunc_int_int_2_vf_impl_areLoads_1_D Try.f122 c122 9 slices_ContainsFunc_int_int_2_vf_impl_areLoads_1_A :=
  ⟨⟨Try.func122, by kernel_rfl, by kernel_rfl, by kernel_rfl, by decide, by kernel_rfl, Nat.le_of_ble_eq_true (by kernel_rfl)⟩, by kernel_rfl, by kernel_rfl, by kernel_rfl, kcast (by kernel_rfl) trivial, by kernel_rfl, fun x y => by kernel_rfl⟩
theorem slices_ContainsFunc_int_int_2_vf_impl_areLoads_1_s : slices_ContainsFunc_int_int_2_vf_impl_areLoads_1_D.Says Try.prog := slices_ContainsFunc_int_int_2_vf_impl_areLoads_1_w.says follows tabOk slices_IndexFunc_int_int_2_vf_impl_areLoads_1_e_ok
noncomputable def slices_ContainsFunc_int_int_2_vf_impl_areLoads_1_e : Env := more slices_IndexFunc_int_int_2_vf_impl_areLoads_1_e slices_ContainsFunc_int_int_2_vf_impl_areLoads_1_D
theorem slices_ContainsFunc_int_int_2_vf_impl_areLoads_1_e_ok : EnvOk Try.prog slices_ContainsFunc_int_int_2_vf_impl_areLoads_1_e := more_ok slices_IndexFunc_int_int_2_vf_impl_areLoads_1_e_ok slices_ContainsFunc_int_int_2_vf_impl_areLoads_1_s
/-! loop.example/g01128/impl.areLoads -/
abbrev impl_areLoads_E : Ve.End := ⟨[⟨4, .shr, .bool, none⟩], []⟩
abbrev impl_areLoads_a : List ASh := [.val (.list I), .val I]
abbrev impl_areLoads_o : List OSh := []
noncomputable def impl_areLoads : argP impl_areLoads_a → obP (extObs 0 impl_areLoads_o) → Option impl_areLoads_E.P
  | (list, many, ()), () => bif ((List.length list : Int) == many) then (match slices_ContainsFunc_int_int_2_vf_impl_areLoads_1 (list, ()) () with | some ((r, ()), ()) => some (((!r), ()), ()) | none => none) else (some ((false, ()), ()))
noncomputable def impl_areLoads_x : Cx := ⟨tab, slices_ContainsFunc_int_int_2_vf_impl_areLoads_1_e, fun _ _ => 0, fun _ => false, [(11, 0), (11, 1), (11, 2), (11, 3)], []⟩
noncomputable def c129 : Code := bodyOf Try.f129
noncomputable def impl_areLoads_A : Ann := .nil
noncomputable def impl_areLoads_D : Ve.Fn := ⟨129, impl_areLoads_a, impl_areLoads_o, impl_areLoads_E, impl_areLoads⟩
theorem impl_areLoads_w : Walk Try.prog impl_areLoads_x impl_areLoads_D Try.f129 c129 14 impl_areLoads_A :=
  ⟨⟨Try.func129, by kernel_rfl, by kernel_rfl, by kernel_rfl, by decide, by kernel_rfl, Nat.le_of_ble_eq_true (by kernel_rfl)⟩, by kernel_rfl, by kernel_rfl, by kernel_rfl, kcast (by kernel_rfl) trivial, by kernel_rfl, fun x y => by kernel_rfl⟩
theorem impl_areLoads_s : impl_areLoads_D.Says Try.prog := impl_areLoads_w.says follows tabOk slices_ContainsFunc_int_int_2_vf_impl_areLoads_1_e_ok
noncomputable def impl_areLoads_e : Env := more slices_ContainsFunc_int_int_2_vf_impl_areLoads_1_e impl_areLoads_D
theorem impl_areLoads_e_ok : EnvOk Try.prog impl_areLoads_e := more_ok slices_ContainsFunc_int_int_2_vf_impl_areLoads_1_e_ok impl_areLoads_s
/-! loop.example/g01128/impl.isWeighed -/
abbrev impl_isWeighed_E : Ve.End := ⟨[⟨4, .shr, .bool, none⟩], []⟩
abbrev impl_isWeighed_a : List ASh := [.val (.prod (.list (.list I)) (.list (.prod I I))), .val (.list I)]
abbrev impl_isWeighed_o : List OSh := []
noncomputable def impl_isWeighed : argP impl_isWeighed_a → obP (extObs 0 impl_isWeighed_o) → Option impl_isWeighed_E.P
  | (x, weights, ()), () => match impl_IsSpace (x, ()) () with | some ((r, ()), ()) => (bif r then (match impl_areLoads (weights, (List.length x.2 : Int), ()) () with | some ((r2, ()), ()) => some ((r2, ()), ()) | none => none) else (some ((false, ()), ()))) | none => none
noncomputable def impl_isWeighed_x : Cx := ⟨tab, impl_areLoads_e, fun _ _ => 0, fun _ => false, [(6, 0), (6, 1), (6, 2), (6, 3), (12, 0), (12, 1), (12, 2), (12, 3)], [(2, 0)]⟩
noncomputable def c73 : Code := bodyOf Try.f73
noncomputable def impl_isWeighed_A : Ann := .nil
noncomputable def impl_isWeighed_D : Ve.Fn := ⟨73, impl_isWeighed_a, impl_isWeighed_o, impl_isWeighed_E, impl_isWeighed⟩
theorem impl_isWeighed_w : Walk Try.prog impl_isWeighed_x impl_isWeighed_D Try.f73 c73 14 impl_isWeighed_A :=
  ⟨⟨Try.func73, by kernel_rfl, by kernel_rfl, by kernel_rfl, by decide, by kernel_rfl, Nat.le_of_ble_eq_true (by kernel_rfl)⟩, by kernel_rfl, by kernel_rfl, by kernel_rfl, kcast (by kernel_rfl) trivial, by kernel_rfl, fun x y => by kernel_rfl⟩
theorem impl_isWeighed_s : impl_isWeighed_D.Says Try.prog := impl_isWeighed_w.says follows tabOk impl_areLoads_e_ok
noncomputable def impl_isWeighed_e : Env := more impl_areLoads_e impl_isWeighed_D
theorem impl_isWeighed_e_ok : EnvOk Try.prog impl_isWeighed_e := more_ok impl_areLoads_e_ok impl_isWeighed_s
/-! loop.example/g01128/impl.home -/
abbrev impl_home_J0 : Tpl := ⟨[(3, .own .shr I), (6, .val I), (7, .val I)], [], []⟩
abbrev impl_home_J1 : Tpl := ⟨[(3, .own .shr I)], [], []⟩
abbrev impl_home_E : Ve.End := ⟨[⟨2, (.own .shr), (.list I), none⟩], []⟩
abbrev impl_home_a : List ASh := [.val I]
abbrev impl_home_o : List OSh := []
abbrev impl_home_O0 : Out := .one (.ex 0) impl_home_J1
noncomputable def impl_home_B0 : impl_home_J0.P → Option (impl_home_J0.P ⊕ impl_home_O0.P)
  | ((out, t6, t7, ()), ()) => bif (decide (t7 < t6)) then (guardB (decide ((List.length out + List.length [t7]) * 8 ≤ 70368744177664)) (some (.inl (((out ++ [t7]), t6, (w64 (t7 + (1 : Int))), ()), ())))) else (some (.inr ((out, ()), ())))
noncomputable def impl_home : argP impl_home_a → obP (extObs 0 impl_home_o) → Option impl_home_E.P
  | (n, ()), () => match loopO impl_home_B0 ((([] : (List Int)), n, (0 : Int), ()), ()) with | some ((out, ()), ()) => some ((out, ()), ()) | none => none
noncomputable def impl_home_x : Cx := ⟨tab, impl_isWeighed_e, fun _ _ => 0, fun _ => false, [(12, 0)], []⟩
noncomputable def c91 : Code := bodyOf Try.f91
noncomputable def impl_home_A : Ann := .seq .nil (.seq .nil (.seq (.seq .nil (.loop impl_home_J0 impl_home_O0 impl_home_B0 .nil)) .nil))
theorem impl_home_r0 (p : impl_home_J0.P) : run impl_home_x (subc [1, 1, 0, 1, 0, 0] c91) .nil (impl_home_J0.S p) (leaf impl_home_J0 impl_home_O0) = impl_home_B0 p := by kernel_rfl
noncomputable def impl_home_D : Ve.Fn := ⟨91, impl_home_a, impl_home_o, impl_home_E, impl_home⟩
theorem impl_home_w : Walk Try.prog impl_home_x impl_home_D Try.f91 c91 16 impl_home_A :=
  ⟨⟨Try.func91, by kernel_rfl, by kernel_rfl, by kernel_rfl, by decide, by kernel_rfl, Nat.le_of_ble_eq_true (by kernel_rfl)⟩, by kernel_rfl, by kernel_rfl, by kernel_rfl, kcast (by kernel_rfl) (⟨impl_home_r0, trivial⟩ : (∀ p, run impl_home_x (subc [1, 1, 0, 1, 0, 0] c91) .nil (impl_home_J0.S p) (leaf impl_home_J0 impl_home_O0) = impl_home_B0 p) ∧ True), by kernel_rfl, fun x y => by kernel_rfl⟩
theorem impl_home_s : impl_home_D.Says Try.prog := impl_home_w.says follows tabOk impl_isWeighed_e_ok
noncomputable def impl_home_e : Env := more impl_isWeighed_e impl_home_D
theorem impl_home_e_ok : EnvOk Try.prog impl_home_e := more_ok impl_isWeighed_e_ok impl_home_s
/-! loop.example/g01128/impl.CheapTree$1 -/
abbrev impl_CheapTree_1_vvc_E : Ve.End := ⟨[⟨5, .shr, I, none⟩], []⟩
abbrev impl_CheapTree_1_vvc_a : List ASh := [.val I, .val I, .cst (.list I)]
abbrev impl_CheapTree_1_vvc_o : List OSh := []
noncomputable def impl_CheapTree_1_vvc : argP impl_CheapTree_1_vvc_a → obP (extObs 0 impl_CheapTree_1_vvc_o) → Option impl_CheapTree_1_vvc_E.P
  | (a, b, t2, ()), () => guardB (inb a (List.length t2)) (guardB (inb b (List.length t2)) (match cmp_Compare_int ((List.getD t2 (Int.toNat a) (0 : Int)), (List.getD t2 (Int.toNat b) (0 : Int)), ()) () with | some ((r, ()), ()) => some ((r, ()), ()) | none => none))
noncomputable def impl_CheapTree_1_vvc_x : Cx := ⟨tab, impl_home_e, fun _ _ => 0, fun _ => false, [(14, 0), (14, 1), (14, 2), (14, 3)], []⟩
noncomputable def c93 : Code := bodyOf Try.f93
noncomputable def impl_CheapTree_1_vvc_A : Ann := .seq .nil (.seq (.draw [(0, .flo), (1, .flo), (2, .flo), (3, .flo), (4, .flo), (5, .flo), (6, .flo), (7, .flo), (8, .sole), (9, .flo)]) .nil)
noncomputable def impl_CheapTree_1_vvc_D : Ve.Fn := ⟨93, impl_CheapTree_1_vvc_a, impl_CheapTree_1_vvc_o, impl_CheapTree_1_vvc_E, impl_CheapTree_1_vvc⟩
theorem impl_CheapTree_1_vvc_w : Walk Try.prog impl_CheapTree_1_vvc_x impl_CheapTree_1_vvc_D Try.f93 c93 15 impl_CheapTree_1_vvc_A :=
  ⟨⟨Try.func93, by kernel_rfl, by kernel_rfl, by kernel_rfl, by decide, by kernel_rfl, Nat.le_of_ble_eq_true (by kernel_rfl)⟩, by kernel_rfl, by kernel_rfl, by kernel_rfl, kcast (by kernel_rfl) trivial, by kernel_rfl, fun x y => by kernel_rfl⟩
theorem impl_CheapTree_1_vvc_s : impl_CheapTree_1_vvc_D.Says Try.prog := impl_CheapTree_1_vvc_w.says follows tabOk impl_home_e_ok
noncomputable def impl_CheapTree_1_vvc_e : Env := more impl_home_e impl_CheapTree_1_vvc_D
theorem impl_CheapTree_1_vvc_e_ok : EnvOk Try.prog impl_CheapTree_1_vvc_e := more_ok impl_home_e_ok impl_CheapTree_1_vvc_s
/-! slices.insertionSortCmpFunc[int] -/
abbrev slices_insertionSortCmpFunc_int_e0vvf_impl_CheapTree_1_1__lsbs_J0 : Tpl := ⟨[(0, .same (1000000, 0) []), (1, .val I), (2, .val I), (3, .fn ⟨93, [(1000001, 0)]⟩), (8, .val I), (9, .val I)], [((1000000, 0), .vec .shr I), ((1000001, 0), .box .shr (.list I))], []⟩
abbrev slices_insertionSortCmpFunc_int_e0vvf_impl_CheapTree_1_1__lsbs_J1 : Tpl := ⟨[(0, .same (1000000, 0) []), (1, .val I), (2, .val I), (3, .fn ⟨93, [(1000001, 0)]⟩), (8, .val I)], [((1000000, 0), .vec .shr I), ((1000001, 0), .box .shr (.list I))], []⟩
abbrev slices_insertionSortCmpFunc_int_e0vvf_impl_CheapTree_1_1__lsbs_J2 : Tpl := ⟨[], [((1000000, 0), .vec .shr I), ((1000001, 0), .box .shr (.list I))], []⟩
abbrev slices_insertionSortCmpFunc_int_e0vvf_impl_CheapTree_1_1__lsbs_E : Ve.End := ⟨[], [.vec .shr I, .box .shr (.list I)]⟩
abbrev slices_insertionSortCmpFunc_int_e0vvf_impl_CheapTree_1_1__lsbs_a : List ASh := [.ext 0, .val I, .val I, .fn 93 [1]]
abbrev slices_insertionSortCmpFunc_int_e0vvf_impl_CheapTree_1_1__lsbs_o : List OSh := [.vec .shr I, .box .shr (.list I)]
abbrev slices_insertionSortCmpFunc_int_e0vvf_impl_CheapTree_1_1__lsbs_O0 : Out := .one (.ex 2) slices_insertionSortCmpFunc_int_e0vvf_impl_CheapTree_1_1__lsbs_J1
noncomputable def slices_insertionSortCmpFunc_int_e0vvf_impl_CheapTree_1_1__lsbs_B0 : slices_insertionSortCmpFunc_int_e0vvf_impl_CheapTree_1_1__lsbs_J0.P → Option (slices_insertionSortCmpFunc_int_e0vvf_impl_CheapTree_1_1__lsbs_J0.P ⊕ slices_insertionSortCmpFunc_int_e0vvf_impl_CheapTree_1_1__lsbs_O0.P)
  | ((a, b, i, j, ()), (o0, o1, ())) => bif (decide (a < j)) then (guardB (inb j (List.length o0)) (guardB (inb (w64 (j - (1 : Int))) (List.length o0)) (match impl_CheapTree_1_vvc ((List.getD o0 (Int.toNat j) (0 : Int)), (List.getD o0 (Int.toNat (w64 (j - (1 : Int)))) (0 : Int)), o1, ()) () with | some ((r, ()), ()) => (bif (decide (r < (0 : Int))) then (guardB (inb (w64 (j - (1 : Int))) (List.length o0)) (guardB (inb j (List.length o0)) (guardB (inb j (List.length o0)) (guardB (inb (w64 (j - (1 : Int))) (List.length (List.set o0 (Int.toNat j) (List.getD o0 (Int.toNat (w64 (j - (1 : Int)))) (0 : Int))))) (some (.inl ((a, b, i, (w64 (j - (1 : Int))), ()), ((List.set (List.set o0 (Int.toNat j) (List.getD o0 (Int.toNat (w64 (j - (1 : Int)))) (0 : Int))) (Int.toNat (w64 (j - (1 : Int)))) (List.getD o0 (Int.toNat j) (0 : Int))), o1, ())))))))) else (some (.inr ((a, b, i, ()), (o0, o1, ()))))) | none => none))) else (some (.inr ((a, b, i, ()), (o0, o1, ()))))
abbrev slices_insertionSortCmpFunc_int_e0vvf_impl_CheapTree_1_1__lsbs_O1 : Out := .one (.ex 0) slices_insertionSortCmpFunc_int_e0vvf_impl_CheapTree_1_1__lsbs_J2
noncomputable def slices_insertionSortCmpFunc_int_e0vvf_impl_CheapTree_1_1__lsbs_B1 : slices_insertionSortCmpFunc_int_e0vvf_impl_CheapTree_1_1__lsbs_J1.P → Option (slices_insertionSortCmpFunc_int_e0vvf_impl_CheapTree_1_1__lsbs_J1.P ⊕ slices_insertionSortCmpFunc_int_e0vvf_impl_CheapTree_1_1__lsbs_O1.P)
  | ((a, b, i, ()), (o0, o1, ())) => bif (decide (i < b)) then (match loopO slices_insertionSortCmpFunc_int_e0vvf_impl_CheapTree_1_1__lsbs_B0 ((a, b, i, i, ()), (o0, o1, ())) with | some ((a2, b2, i2, ()), (o0_2, o1_2, ())) => some (.inl ((a2, b2, (w64 (i2 + (1 : Int))), ()), (o0_2, o1_2, ()))) | none => none) else (some (.inr ((), (o0, o1, ()))))
noncomputable def slices_insertionSortCmpFunc_int_e0vvf_impl_CheapTree_1_1__lsbs : argP slices_insertionSortCmpFunc_int_e0vvf_impl_CheapTree_1_1__lsbs_a → obP (extObs 0 slices_insertionSortCmpFunc_int_e0vvf_impl_CheapTree_1_1__lsbs_o) → Option slices_insertionSortCmpFunc_int_e0vvf_impl_CheapTree_1_1__lsbs_E.P
  | (a, b, ()), (o0, o1, ()) => match loopO slices_insertionSortCmpFunc_int_e0vvf_impl_CheapTree_1_1__lsbs_B1 ((a, b, (w64 (a + (1 : Int))), ()), (o0, o1, ())) with | some ((), (o0_2, o1_2, ())) => some ((), (o0_2, o1_2, ())) | none => none
noncomputable def slices_insertionSortCmpFunc_int_e0vvf_impl_CheapTree_1_1__lsbs_x : Cx := ⟨tab, impl_CheapTree_1_vvc_e, fun _ _ => 0, fun _ => false, [(32, 0), (32, 1), (32, 2), (32, 3)], []⟩
noncomputable def c158 : Code := bodyOf Try.f158
noncomputable def slices_insertionSortCmpFunc_int_e0vvf_impl_CheapTree_1_1__lsbs_A : Ann := .seq .nil (.loop slices_insertionSortCmpFunc_int_e0vvf_impl_CheapTree_1_1__lsbs_J1 slices_insertionSortCmpFunc_int_e0vvf_impl_CheapTree_1_1__lsbs_O1 slices_insertionSortCmpFunc_int_e0vvf_impl_CheapTree_1_1__lsbs_B1 (.seq .nil (.seq (.seq .nil (.loop slices_insertionSortCmpFunc_int_e0vvf_impl_CheapTree_1_1__lsbs_J0 slices_insertionSortCmpFunc_int_e0vvf_impl_CheapTree_1_1__lsbs_O0 slices_insertionSortCmpFunc_int_e0vvf_impl_CheapTree_1_1__lsbs_B0 (.seq (.seq (.draw [(0, .flo), (1, .flo), (2, .flo), (3, .flo), (4, .flo), (5, .flo), (6, .flo), (7, .flo), (9, .flo), (10, .flo), (11, .flo), (12, .flo), (8, .qui), (13, .qui), (14, .sole), (15, .flo), (16, .flo)]) .nil) (.seq (.draw [(0, .flo), (1, .flo), (2, .flo), (3, .flo), (4, .flo), (5, .flo), (6, .flo), (7, .flo), (8, .flo), (10, .flo), (11, .flo), (12, .flo), (9, .qui), (13, .qui), (14, .flo), (15, .sole), (16, .flo), (17, .sole)]) .nil)))) .nil)))
theorem slices_insertionSortCmpFunc_int_e0vvf_impl_CheapTree_1_1__lsbs_r0 (p : slices_insertionSortCmpFunc_int_e0vvf_impl_CheapTree_1_1__lsbs_J1.P) : run slices_insertionSortCmpFunc_int_e0vvf_impl_CheapTree_1_1__lsbs_x (subc [1, 0, 0] c158) (.seq .nil (.seq (.seq .nil (.loop slices_insertionSortCmpFunc_int_e0vvf_impl_CheapTree_1_1__lsbs_J0 slices_insertionSortCmpFunc_int_e0vvf_impl_CheapTree_1_1__lsbs_O0 slices_insertionSortCmpFunc_int_e0vvf_impl_CheapTree_1_1__lsbs_B0 (.seq (.seq (.draw [(0, .flo), (1, .flo), (2, .flo), (3, .flo), (4, .flo), (5, .flo), (6, .flo), (7, .flo), (9, .flo), (10, .flo), (11, .flo), (12, .flo), (8, .qui), (13, .qui), (14, .sole), (15, .flo), (16, .flo)]) .nil) (.seq (.draw [(0, .flo), (1, .flo), (2, .flo), (3, .flo), (4, .flo), (5, .flo), (6, .flo), (7, .flo), (8, .flo), (10, .flo), (11, .flo), (12, .flo), (9, .qui), (13, .qui), (14, .flo), (15, .sole), (16, .flo), (17, .sole)]) .nil)))) .nil)) (slices_insertionSortCmpFunc_int_e0vvf_impl_CheapTree_1_1__lsbs_J1.S p) (leaf slices_insertionSortCmpFunc_int_e0vvf_impl_CheapTree_1_1__lsbs_J1 slices_insertionSortCmpFunc_int_e0vvf_impl_CheapTree_1_1__lsbs_O1) = slices_insertionSortCmpFunc_int_e0vvf_impl_CheapTree_1_1__lsbs_B1 p := by kernel_rfl
theorem slices_insertionSortCmpFunc_int_e0vvf_impl_CheapTree_1_1__lsbs_r1 (p : slices_insertionSortCmpFunc_int_e0vvf_impl_CheapTree_1_1__lsbs_J0.P) : run slices_insertionSortCmpFunc_int_e0vvf_impl_CheapTree_1_1__lsbs_x (subc [1, 0, 0, 1, 0, 0, 1, 0, 0] c158) (.seq (.seq (.draw [(0, .flo), (1, .flo), (2, .flo), (3, .flo), (4, .flo), (5, .flo), (6, .flo), (7, .flo), (9, .flo), (10, .flo), (11, .flo), (12, .flo), (8, .qui), (13, .qui), (14, .sole), (15, .flo), (16, .flo)]) .nil) (.seq (.draw [(0, .flo), (1, .flo), (2, .flo), (3, .flo), (4, .flo), (5, .flo), (6, .flo), (7, .flo), (8, .flo), (10, .flo), (11, .flo), (12, .flo), (9, .qui), (13, .qui), (14, .flo), (15, .sole), (16, .flo), (17, .sole)]) .nil)) (slices_insertionSortCmpFunc_int_e0vvf_impl_CheapTree_1_1__lsbs_J0.S p) (leaf slices_insertionSortCmpFunc_int_e0vvf_impl_CheapTree_1_1__lsbs_J0 slices_insertionSortCmpFunc_int_e0vvf_impl_CheapTree_1_1__lsbs_O0) = slices_insertionSortCmpFunc_int_e0vvf_impl_CheapTree_1_1__lsbs_B0 p := by kernel_rfl
noncomputable def slices_insertionSortCmpFunc_int_e0vvf_impl_CheapTree_1_1__lsbs_D : Ve.Fn := ⟨158, slices_insertionSortCmpFunc_int_e0vvf_impl_CheapTree_1_1__lsbs_a, slices_insertionSortCmpFunc_int_e0vvf_impl_CheapTree_1_1__lsbs_o, slices_insertionSortCmpFunc_int_e0vvf_impl_CheapTree_1_1__lsbs_E, slices_insertionSortCmpFunc_int_e0vvf_impl_CheapTree_1_1__lsbs⟩
theorem slices_insertionSortCmpFunc_int_e0vvf_impl_CheapTree_1_1__lsbs_w : Walk Try.prog slices_insertionSortCmpFunc_int_e0vvf_impl_CheapTree_1_1__lsbs_x slices_insertionSortCmpFunc_int_e0vvf_impl_CheapTree_1_1__lsbs_D Try.f158 c158 53 slices_insertionSortCmpFunc_int_e0vvf_impl_CheapTree_1_1__lsbs_A :=
  ⟨⟨Try.func158, by kernel_rfl, by kernel_rfl, by kernel_rfl, by decide, by kernel_rfl, Nat.le_of_ble_eq_true (by kernel_rfl)⟩, by kernel_rfl, by kernel_rfl, by kernel_rfl, kcast (by kernel_rfl) (⟨slices_insertionSortCmpFunc_int_e0vvf_impl_CheapTree_1_1__lsbs_r0, slices_insertionSortCmpFunc_int_e0vvf_impl_CheapTree_1_1__lsbs_r1, trivial⟩ : (∀ p, run slices_insertionSortCmpFunc_int_e0vvf_impl_CheapTree_1_1__lsbs_x (subc [1, 0, 0] c158) (.seq .nil (.seq (.seq .nil (.loop slices_insertionSortCmpFunc_int_e0vvf_impl_CheapTree_1_1__lsbs_J0 slices_insertionSortCmpFunc_int_e0vvf_impl_CheapTree_1_1__lsbs_O0 slices_insertionSortCmpFunc_int_e0vvf_impl_CheapTree_1_1__lsbs_B0 (.seq (.seq (.draw [(0, .flo), (1, .flo), (2, .flo), (3, .flo), (4, .flo), (5, .flo), (6, .flo), (7, .flo), (9, .flo), (10, .flo), (11, .flo), (12, .flo), (8, .qui), (13, .qui), (14, .sole), (15, .flo), (16, .flo)]) .nil) (.seq (.draw [(0, .flo), (1, .flo), (2, .flo), (3, .flo), (4, .flo), (5, .flo), (6, .flo), (7, .flo), (8, .flo), (10, .flo), (11, .flo), (12, .flo), (9, .qui), (13, .qui), (14, .flo), (15, .sole), (16, .flo), (17, .sole)]) .nil)))) .nil)) (slices_insertionSortCmpFunc_int_e0vvf_impl_CheapTree_1_1__lsbs_J1.S p) (leaf slices_insertionSortCmpFunc_int_e0vvf_impl_CheapTree_1_1__lsbs_J1 slices_insertionSortCmpFunc_int_e0vvf_impl_CheapTree_1_1__lsbs_O1) = slices_insertionSortCmpFunc_int_e0vvf_impl_CheapTree_1_1__lsbs_B1 p) ∧ (∀ p, run slices_insertionSortCmpFunc_int_e0vvf_impl_CheapTree_1_1__lsbs_x (subc [1, 0, 0, 1, 0, 0, 1, 0, 0] c158) (.seq (.seq (.draw [(0, .flo), (1, .flo), (2, .flo), (3, .flo), (4, .flo), (5, .flo), (6, .flo), (7, .flo), (9, .flo), (10, .flo), (11, .flo), (12, .flo), (8, .qui), (13, .qui), (14, .sole), (15, .flo), (16, .flo)]) .nil) (.seq (.draw [(0, .flo), (1, .flo), (2, .flo), (3, .flo), (4, .flo), (5, .flo), (6, .flo), (7, .flo), (8, .flo), (10, .flo), (11, .flo), (12, .flo), (9, .qui), (13, .qui), (14, .flo), (15, .sole), (16, .flo), (17, .sole)]) .nil)) (slices_insertionSortCmpFunc_int_e0vvf_impl_CheapTree_1_1__lsbs_J0.S p) (leaf slices_insertionSortCmpFunc_int_e0vvf_impl_CheapTree_1_1__lsbs_J0 slices_insertionSortCmpFunc_int_e0vvf_impl_CheapTree_1_1__lsbs_O0) = slices_insertionSortCmpFunc_int_e0vvf_impl_CheapTree_1_1__lsbs_B0 p) ∧ True), by kernel_rfl, fun x y => by kernel_rfl⟩
theorem slices_insertionSortCmpFunc_int_e0vvf_impl_CheapTree_1_1__lsbs_s : slices_insertionSortCmpFunc_int_e0vvf_impl_CheapTree_1_1__lsbs_D.Says Try.prog := slices_insertionSortCmpFunc_int_e0vvf_impl_CheapTree_1_1__lsbs_w.says follows tabOk impl_CheapTree_1_vvc_e_ok
noncomputable def slices_insertionSortCmpFunc_int_e0vvf_impl_CheapTree_1_1__lsbs_e : Env := more impl_CheapTree_1_vvc_e slices_insertionSortCmpFunc_int_e0vvf_impl_CheapTree_1_1__lsbs_D
theorem slices_insertionSortCmpFunc_int_e0vvf_impl_CheapTree_1_1__lsbs_e_ok : EnvOk Try.prog slices_insertionSortCmpFunc_int_e0vvf_impl_CheapTree_1_1__lsbs_e := more_ok impl_CheapTree_1_vvc_e_ok slices_insertionSortCmpFunc_int_e0vvf_impl_CheapTree_1_1__lsbs_s
/-! slices.swapRangeCmpFunc[int] -/
abbrev slices_swapRangeCmpFunc_int_e0vvvf_impl_CheapTree_1_1__lsbs_J0 : Tpl := ⟨[(0, .same (1000000, 0) []), (1, .val I), (2, .val I), (3, .val I), (10, .val I)], [((1000000, 0), .vec .shr I), ((1000001, 0), .box .shr (.list I))], []⟩
abbrev slices_swapRangeCmpFunc_int_e0vvvf_impl_CheapTree_1_1__lsbs_J1 : Tpl := ⟨[], [((1000000, 0), .vec .shr I), ((1000001, 0), .box .shr (.list I))], []⟩
abbrev slices_swapRangeCmpFunc_int_e0vvvf_impl_CheapTree_1_1__lsbs_E : Ve.End := ⟨[], [.vec .shr I, .box .shr (.list I)]⟩
abbrev slices_swapRangeCmpFunc_int_e0vvvf_impl_CheapTree_1_1__lsbs_a : List ASh := [.ext 0, .val I, .val I, .val I, .fn 93 [1]]
abbrev slices_swapRangeCmpFunc_int_e0vvvf_impl_CheapTree_1_1__lsbs_o : List OSh := [.vec .shr I, .box .shr (.list I)]
abbrev slices_swapRangeCmpFunc_int_e0vvvf_impl_CheapTree_1_1__lsbs_O0 : Out := .one (.ex 0) slices_swapRangeCmpFunc_int_e0vvvf_impl_CheapTree_1_1__lsbs_J1
noncomputable def slices_swapRangeCmpFunc_int_e0vvvf_impl_CheapTree_1_1__lsbs_B0 : slices_swapRangeCmpFunc_int_e0vvvf_impl_CheapTree_1_1__lsbs_J0.P → Option (slices_swapRangeCmpFunc_int_e0vvvf_impl_CheapTree_1_1__lsbs_J0.P ⊕ slices_swapRangeCmpFunc_int_e0vvvf_impl_CheapTree_1_1__lsbs_O0.P)
  | ((a, b, n, i, ()), (o0, o1, ())) => bif (decide (i < n)) then (guardB (inb (w64 (b + i)) (List.length o0)) (guardB (inb (w64 (a + i)) (List.length o0)) (guardB (inb (w64 (a + i)) (List.length o0)) (guardB (inb (w64 (b + i)) (List.length (List.set o0 (Int.toNat (w64 (a + i))) (List.getD o0 (Int.toNat (w64 (b + i))) (0 : Int))))) (some (.inl ((a, b, n, (w64 (i + (1 : Int))), ()), ((List.set (List.set o0 (Int.toNat (w64 (a + i))) (List.getD o0 (Int.toNat (w64 (b + i))) (0 : Int))) (Int.toNat (w64 (b + i))) (List.getD o0 (Int.toNat (w64 (a + i))) (0 : Int))), o1, ())))))))) else (some (.inr ((), (o0, o1, ()))))
noncomputable def slices_swapRangeCmpFunc_int_e0vvvf_impl_CheapTree_1_1__lsbs : argP slices_swapRangeCmpFunc_int_e0vvvf_impl_CheapTree_1_1__lsbs_a → obP (extObs 0 slices_swapRangeCmpFunc_int_e0vvvf_impl_CheapTree_1_1__lsbs_o) → Option slices_swapRangeCmpFunc_int_e0vvvf_impl_CheapTree_1_1__lsbs_E.P
  | (a, b, n, ()), (o0, o1, ()) => match loopO slices_swapRangeCmpFunc_int_e0vvvf_impl_CheapTree_1_1__lsbs_B0 ((a, b, n, (0 : Int), ()), (o0, o1, ())) with | some ((), (o0_2, o1_2, ())) => some ((), (o0_2, o1_2, ())) | none => none
noncomputable def slices_swapRangeCmpFunc_int_e0vvvf_impl_CheapTree_1_1__lsbs_x : Cx := ⟨tab, slices_insertionSortCmpFunc_int_e0vvf_impl_CheapTree_1_1__lsbs_e, fun _ _ => 0, fun _ => false, [], []⟩
noncomputable def c183 : Code := bodyOf Try.f183
noncomputable def slices_swapRangeCmpFunc_int_e0vvvf_impl_CheapTree_1_1__lsbs_A : Ann := .seq .nil (.loop slices_swapRangeCmpFunc_int_e0vvvf_impl_CheapTree_1_1__lsbs_J0 slices_swapRangeCmpFunc_int_e0vvvf_impl_CheapTree_1_1__lsbs_O0 slices_swapRangeCmpFunc_int_e0vvvf_impl_CheapTree_1_1__lsbs_B0 (.seq .nil (.seq (.draw [(0, .flo), (1, .flo), (2, .flo), (3, .flo), (4, .flo), (5, .flo), (6, .flo), (7, .flo), (8, .flo), (9, .flo), (10, .flo), (11, .flo), (12, .flo), (14, .flo), (15, .flo), (16, .flo), (17, .flo), (18, .flo), (13, .qui), (19, .qui), (20, .flo), (21, .sole), (22, .flo), (23, .sole)]) .nil)))
theorem slices_swapRangeCmpFunc_int_e0vvvf_impl_CheapTree_1_1__lsbs_r0 (p : slices_swapRangeCmpFunc_int_e0vvvf_impl_CheapTree_1_1__lsbs_J0.P) : run slices_swapRangeCmpFunc_int_e0vvvf_impl_CheapTree_1_1__lsbs_x (subc [1, 0, 0] c183) (.seq .nil (.seq (.draw [(0, .flo), (1, .flo), (2, .flo), (3, .flo), (4, .flo), (5, .flo), (6, .flo), (7, .flo), (8, .flo), (9, .flo), (10, .flo), (11, .flo), (12, .flo), (14, .flo), (15, .flo), (16, .flo), (17, .flo), (18, .flo), (13, .qui), (19, .qui), (20, .flo), (21, .sole), (22, .flo), (23, .sole)]) .nil)) (slices_swapRangeCmpFunc_int_e0vvvf_impl_CheapTree_1_1__lsbs_J0.S p) (leaf slices_swapRangeCmpFunc_int_e0vvvf_impl_CheapTree_1_1__lsbs_J0 slices_swapRangeCmpFunc_int_e0vvvf_impl_CheapTree_1_1__lsbs_O0) = slices_swapRangeCmpFunc_int_e0vvvf_impl_CheapTree_1_1__lsbs_B0 p := by kernel_rfl
noncomputable def slices_swapRangeCmpFunc_int_e0vvvf_impl_CheapTree_1_1__lsbs_D : Ve.Fn := ⟨183, slices_swapRangeCmpFunc_int_e0vvvf_impl_CheapTree_1_1__lsbs_a, slices_swapRangeCmpFunc_int_e0vvvf_impl_CheapTree_1_1__lsbs_o, slices_swapRangeCmpFunc_int_e0vvvf_impl_CheapTree_1_1__lsbs_E, slices_swapRangeCmpFunc_int_e0vvvf_impl_CheapTree_1_1__lsbs⟩
theorem slices_swapRangeCmpFunc_int_e0vvvf_impl_CheapTree_1_1__lsbs_w : Walk Try.prog slices_swapRangeCmpFunc_int_e0vvvf_impl_CheapTree_1_1__lsbs_x slices_swapRangeCmpFunc_int_e0vvvf_impl_CheapTree_1_1__lsbs_D Try.f183 c183 38 slices_swapRangeCmpFunc_int_e0vvvf_impl_CheapTree_1_1__lsbs_A :=
  ⟨⟨Try.func183, by kernel_rfl, by kernel_rfl, by kernel_rfl, by decide, by kernel_rfl, Nat.le_of_ble_eq_true (by kernel_rfl)⟩, by kernel_rfl, by kernel_rfl, by kernel_rfl, kcast (by kernel_rfl) (⟨slices_swapRangeCmpFunc_int_e0vvvf_impl_CheapTree_1_1__lsbs_r0, trivial⟩ : (∀ p, run slices_swapRangeCmpFunc_int_e0vvvf_impl_CheapTree_1_1__lsbs_x (subc [1, 0, 0] c183) (.seq .nil (.seq (.draw [(0, .flo), (1, .flo), (2, .flo), (3, .flo), (4, .flo), (5, .flo), (6, .flo), (7, .flo), (8, .flo), (9, .flo), (10, .flo), (11, .flo), (12, .flo), (14, .flo), (15, .flo), (16, .flo), (17, .flo), (18, .flo), (13, .qui), (19, .qui), (20, .flo), (21, .sole), (22, .flo), (23, .sole)]) .nil)) (slices_swapRangeCmpFunc_int_e0vvvf_impl_CheapTree_1_1__lsbs_J0.S p) (leaf slices_swapRangeCmpFunc_int_e0vvvf_impl_CheapTree_1_1__lsbs_J0 slices_swapRangeCmpFunc_int_e0vvvf_impl_CheapTree_1_1__lsbs_O0) = slices_swapRangeCmpFunc_int_e0vvvf_impl_CheapTree_1_1__lsbs_B0 p) ∧ True), by kernel_rfl, fun x y => by kernel_rfl⟩
theorem slices_swapRangeCmpFunc_int_e0vvvf_impl_CheapTree_1_1__lsbs_s : slices_swapRangeCmpFunc_int_e0vvvf_impl_CheapTree_1_1__lsbs_D.Says Try.prog := slices_swapRangeCmpFunc_int_e0vvvf_impl_CheapTree_1_1__lsbs_w.says follows tabOk slices_insertionSortCmpFunc_int_e0vvf_impl_CheapTree_1_1__lsbs_e_ok
noncomputable def slices_swapRangeCmpFunc_int_e0vvvf_impl_CheapTree_1_1__lsbs_e : Env := more slices_insertionSortCmpFunc_int_e0vvf_impl_CheapTree_1_1__lsbs_e slices_swapRangeCmpFunc_int_e0vvvf_impl_CheapTree_1_1__lsbs_D
theorem slices_swapRangeCmpFunc_int_e0vvvf_impl_CheapTree_1_1__lsbs_e_ok : EnvOk Try.prog slices_swapRangeCmpFunc_int_e0vvvf_impl_CheapTree_1_1__lsbs_e := more_ok slices_insertionSortCmpFunc_int_e0vvf_impl_CheapTree_1_1__lsbs_e_ok slices_swapRangeCmpFunc_int_e0vvvf_impl_CheapTree_1_1__lsbs_s
/-! slices.rotateCmpFunc[int] -/
abbrev slices_rotateCmpFunc_int_e0vvvf_impl_CheapTree_1_1__lsbs_J0 : Tpl := ⟨[(0, .same (1000000, 0) []), (2, .val I), (4, .fn ⟨93, [(1000001, 0)]⟩), (10, .val I), (11, .val I)], [((1000000, 0), .vec .shr I), ((1000001, 0), .box .shr (.list I))], []⟩
abbrev slices_rotateCmpFunc_int_e0vvvf_impl_CheapTree_1_1__lsbs_J1 : Tpl := ⟨[(0, .same (1000000, 0) []), (2, .val I), (4, .fn ⟨93, [(1000001, 0)]⟩), (10, .val I)], [((1000000, 0), .vec .shr I), ((1000001, 0), .box .shr (.list I))], []⟩
abbrev slices_rotateCmpFunc_int_e0vvvf_impl_CheapTree_1_1__lsbs_E : Ve.End := ⟨[], [.vec .shr I, .box .shr (.list I)]⟩
abbrev slices_rotateCmpFunc_int_e0vvvf_impl_CheapTree_1_1__lsbs_a : List ASh := [.ext 0, .val I, .val I, .val I, .fn 93 [1]]
abbrev slices_rotateCmpFunc_int_e0vvvf_impl_CheapTree_1_1__lsbs_o : List OSh := [.vec .shr I, .box .shr (.list I)]
abbrev slices_rotateCmpFunc_int_e0vvvf_impl_CheapTree_1_1__lsbs_O0 : Out := .one (.ex 0) slices_rotateCmpFunc_int_e0vvvf_impl_CheapTree_1_1__lsbs_J1
noncomputable def slices_rotateCmpFunc_int_e0vvvf_impl_CheapTree_1_1__lsbs_B0 : slices_rotateCmpFunc_int_e0vvvf_impl_CheapTree_1_1__lsbs_J0.P → Option (slices_rotateCmpFunc_int_e0vvvf_impl_CheapTree_1_1__lsbs_J0.P ⊕ slices_rotateCmpFunc_int_e0vvvf_impl_CheapTree_1_1__lsbs_O0.P)
  | ((m, i, j, ()), (o0, o1, ())) => bif (i != j) then (bif (decide (j < i)) then (match slices_swapRangeCmpFunc_int_e0vvvf_impl_CheapTree_1_1__lsbs ((w64 (m - i)), m, j, ()) (o0, o1, ()) with | some ((), (o, o2, ())) => some (.inl ((m, (w64 (i - j)), j, ()), (o, o2, ()))) | none => none) else (match slices_swapRangeCmpFunc_int_e0vvvf_impl_CheapTree_1_1__lsbs ((w64 (m - i)), (w64 ((w64 (m + j)) - i)), i, ()) (o0, o1, ()) with | some ((), (o3, o4, ())) => some (.inl ((m, i, (w64 (j - i)), ()), (o3, o4, ()))) | none => none)) else (some (.inr ((m, i, ()), (o0, o1, ()))))
noncomputable def slices_rotateCmpFunc_int_e0vvvf_impl_CheapTree_1_1__lsbs : argP slices_rotateCmpFunc_int_e0vvvf_impl_CheapTree_1_1__lsbs_a → obP (extObs 0 slices_rotateCmpFunc_int_e0vvvf_impl_CheapTree_1_1__lsbs_o) → Option slices_rotateCmpFunc_int_e0vvvf_impl_CheapTree_1_1__lsbs_E.P
  | (a, m, b, ()), (o0, o1, ()) => match loopO slices_rotateCmpFunc_int_e0vvvf_impl_CheapTree_1_1__lsbs_B0 ((m, (w64 (m - a)), (w64 (b - m)), ()), (o0, o1, ())) with | some ((m2, i, ()), (o0_2, o1_2, ())) => (match slices_swapRangeCmpFunc_int_e0vvvf_impl_CheapTree_1_1__lsbs ((w64 (m2 - i)), m2, i, ()) (o0_2, o1_2, ()) with | some ((), (o, o2, ())) => some ((), (o, o2, ())) | none => none) | none => none
noncomputable def slices_rotateCmpFunc_int_e0vvvf_impl_CheapTree_1_1__lsbs_x : Cx := ⟨tab, slices_swapRangeCmpFunc_int_e0vvvf_impl_CheapTree_1_1__lsbs_e, fun f n => bif Nat.beq f 183 && Nat.beq n 0 then 1 else 0, fun _ => false, [(31, 0), (31, 1), (31, 2), (31, 3), (46, 0), (46, 1), (46, 2), (46, 3), (57, 0), (57, 1), (57, 2), (57, 3)], []⟩
noncomputable def c176 : Code := bodyOf Try.f176
noncomputable def slices_rotateCmpFunc_int_e0vvvf_impl_CheapTree_1_1__lsbs_A : Ann := .seq .nil (.seq .nil (.seq (.loop slices_rotateCmpFunc_int_e0vvvf_impl_CheapTree_1_1__lsbs_J0 slices_rotateCmpFunc_int_e0vvvf_impl_CheapTree_1_1__lsbs_O0 slices_rotateCmpFunc_int_e0vvvf_impl_CheapTree_1_1__lsbs_B0 .nil) .nil))
theorem slices_rotateCmpFunc_int_e0vvvf_impl_CheapTree_1_1__lsbs_r0 (p : slices_rotateCmpFunc_int_e0vvvf_impl_CheapTree_1_1__lsbs_J0.P) : run slices_rotateCmpFunc_int_e0vvvf_impl_CheapTree_1_1__lsbs_x (subc [1, 1, 0, 0, 0] c176) .nil (slices_rotateCmpFunc_int_e0vvvf_impl_CheapTree_1_1__lsbs_J0.S p) (leaf slices_rotateCmpFunc_int_e0vvvf_impl_CheapTree_1_1__lsbs_J0 slices_rotateCmpFunc_int_e0vvvf_impl_CheapTree_1_1__lsbs_O0) = slices_rotateCmpFunc_int_e0vvvf_impl_CheapTree_1_1__lsbs_B0 p := by kernel_rfl
noncomputable def slices_rotateCmpFunc_int_e0vvvf_impl_CheapTree_1_1__lsbs_D : Ve.Fn := ⟨176, slices_rotateCmpFunc_int_e0vvvf_impl_CheapTree_1_1__lsbs_a, slices_rotateCmpFunc_int_e0vvvf_impl_CheapTree_1_1__lsbs_o, slices_rotateCmpFunc_int_e0vvvf_impl_CheapTree_1_1__lsbs_E, slices_rotateCmpFunc_int_e0vvvf_impl_CheapTree_1_1__lsbs⟩
theorem slices_rotateCmpFunc_int_e0vvvf_impl_CheapTree_1_1__lsbs_w : Walk Try.prog slices_rotateCmpFunc_int_e0vvvf_impl_CheapTree_1_1__lsbs_x slices_rotateCmpFunc_int_e0vvvf_impl_CheapTree_1_1__lsbs_D Try.f176 c176 58 slices_rotateCmpFunc_int_e0vvvf_impl_CheapTree_1_1__lsbs_A :=
  ⟨⟨Try.func176, by kernel_rfl, by kernel_rfl, by kernel_rfl, by decide, by kernel_rfl, Nat.le_of_ble_eq_true (by kernel_rfl)⟩, by kernel_rfl, by kernel_rfl, by kernel_rfl, kcast (by kernel_rfl) (⟨slices_rotateCmpFunc_int_e0vvvf_impl_CheapTree_1_1__lsbs_r0, trivial⟩ : (∀ p, run slices_rotateCmpFunc_int_e0vvvf_impl_CheapTree_1_1__lsbs_x (subc [1, 1, 0, 0, 0] c176) .nil (slices_rotateCmpFunc_int_e0vvvf_impl_CheapTree_1_1__lsbs_J0.S p) (leaf slices_rotateCmpFunc_int_e0vvvf_impl_CheapTree_1_1__lsbs_J0 slices_rotateCmpFunc_int_e0vvvf_impl_CheapTree_1_1__lsbs_O0) = slices_rotateCmpFunc_int_e0vvvf_impl_CheapTree_1_1__lsbs_B0 p) ∧ True), by kernel_rfl, fun x y => by kernel_rfl⟩
theorem slices_rotateCmpFunc_int_e0vvvf_impl_CheapTree_1_1__lsbs_s : slices_rotateCmpFunc_int_e0vvvf_impl_CheapTree_1_1__lsbs_D.Says Try.prog := slices_rotateCmpFunc_int_e0vvvf_impl_CheapTree_1_1__lsbs_w.says follows tabOk slices_swapRangeCmpFunc_int_e0vvvf_impl_CheapTree_1_1__lsbs_e_ok
noncomputable def slices_rotateCmpFunc_int_e0vvvf_impl_CheapTree_1_1__lsbs_e : Env := more slices_swapRangeCmpFunc_int_e0vvvf_impl_CheapTree_1_1__lsbs_e slices_rotateCmpFunc_int_e0vvvf_impl_CheapTree_1_1__lsbs_D
theorem slices_rotateCmpFunc_int_e0vvvf_impl_CheapTree_1_1__lsbs_e_ok : EnvOk Try.prog slices_rotateCmpFunc_int_e0vvvf_impl_CheapTree_1_1__lsbs_e := more_ok slices_swapRangeCmpFunc_int_e0vvvf_impl_CheapTree_1_1__lsbs_e_ok slices_rotateCmpFunc_int_e0vvvf_impl_CheapTree_1_1__lsbs_s
/-! slices.symMergeCmpFunc[int] -/
abbrev slices_symMergeCmpFunc_int_e0vvvf_impl_CheapTree_1_1__lsbs_J0 : Tpl := ⟨[(0, .same (1000000, 0) []), (1, .val I), (4, .fn ⟨93, [(1000001, 0)]⟩), (10, .val I), (11, .val I)], [((1000000, 0), .vec .shr I), ((1000001, 0), .box .shr (.list I))], []⟩
abbrev slices_symMergeCmpFunc_int_e0vvvf_impl_CheapTree_1_1__lsbs_J1 : Tpl := ⟨[(0, .same (1000000, 0) []), (1, .val I), (10, .val I)], [((1000000, 0), .vec .shr I), ((1000001, 0), .box .shr (.list I))], []⟩
abbrev slices_symMergeCmpFunc_int_e0vvvf_impl_CheapTree_1_1__lsbs_J2 : Tpl := ⟨[(0, .same (1000000, 0) []), (10, .val I), (13, .val I)], [((1000000, 0), .vec .shr I), ((1000001, 0), .box .shr (.list I))], []⟩
abbrev slices_symMergeCmpFunc_int_e0vvvf_impl_CheapTree_1_1__lsbs_J3 : Tpl := ⟨[], [((1000000, 0), .vec .shr I), ((1000001, 0), .box .shr (.list I))], []⟩
abbrev slices_symMergeCmpFunc_int_e0vvvf_impl_CheapTree_1_1__lsbs_J4 : Tpl := ⟨[(0, .same (1000000, 0) []), (2, .val I), (4, .fn ⟨93, [(1000001, 0)]⟩), (14, .val I), (15, .val I)], [((1000000, 0), .vec .shr I), ((1000001, 0), .box .shr (.list I))], []⟩
abbrev slices_symMergeCmpFunc_int_e0vvvf_impl_CheapTree_1_1__lsbs_J5 : Tpl := ⟨[(0, .same (1000000, 0) []), (2, .val I), (14, .val I)], [((1000000, 0), .vec .shr I), ((1000001, 0), .box .shr (.list I))], []⟩
abbrev slices_symMergeCmpFunc_int_e0vvvf_impl_CheapTree_1_1__lsbs_J6 : Tpl := ⟨[(0, .same (1000000, 0) []), (14, .val I), (17, .val I)], [((1000000, 0), .vec .shr I), ((1000001, 0), .box .shr (.list I))], []⟩
abbrev slices_symMergeCmpFunc_int_e0vvvf_impl_CheapTree_1_1__lsbs_J7 : Tpl := ⟨[(0, .same (1000000, 0) []), (1, .val I), (2, .val I), (3, .val I), (4, .fn ⟨93, [(1000001, 0)]⟩), (18, .val I), (19, .val I), (20, .val I), (21, .val I)], [((1000000, 0), .vec .shr I), ((1000001, 0), .box .shr (.list I))], []⟩
abbrev slices_symMergeCmpFunc_int_e0vvvf_impl_CheapTree_1_1__lsbs_J8 : Tpl := ⟨[(0, .same (1000000, 0) []), (1, .val I), (2, .val I), (3, .val I), (4, .fn ⟨93, [(1000001, 0)]⟩), (18, .val I), (19, .val I), (20, .val I), (21, .val I), (22, .val I)], [((1000000, 0), .vec .shr I), ((1000001, 0), .box .shr (.list I))], []⟩
abbrev slices_symMergeCmpFunc_int_e0vvvf_impl_CheapTree_1_1__lsbs_J9 : Tpl := ⟨[(0, .same (1000000, 0) []), (1, .val I), (2, .val I), (3, .val I), (4, .fn ⟨93, [(1000001, 0)]⟩), (18, .val I), (19, .val I), (20, .val I)], [((1000000, 0), .vec .shr I), ((1000001, 0), .box .shr (.list I))], []⟩
abbrev slices_symMergeCmpFunc_int_e0vvvf_impl_CheapTree_1_1__lsbs_J10 : Tpl := ⟨[(0, .same (1000000, 0) []), (1, .val I), (3, .val I), (4, .fn ⟨93, [(1000001, 0)]⟩), (18, .val I), (20, .val I), (24, .val I)], [((1000000, 0), .vec .shr I), ((1000001, 0), .box .shr (.list I))], []⟩
abbrev slices_symMergeCmpFunc_int_e0vvvf_impl_CheapTree_1_1__lsbs_E : Ve.End := ⟨[], [.vec .shr I, .box .shr (.list I)]⟩
abbrev slices_symMergeCmpFunc_int_e0vvvf_impl_CheapTree_1_1__lsbs_a : List ASh := [.ext 0, .val I, .val I, .val I, .fn 93 [1]]
abbrev slices_symMergeCmpFunc_int_e0vvvf_impl_CheapTree_1_1__lsbs_o : List OSh := [.vec .shr I, .box .shr (.list I)]
abbrev slices_symMergeCmpFunc_int_e0vvvf_impl_CheapTree_1_1__lsbs_O0 : Out := .one (.ex 0) slices_symMergeCmpFunc_int_e0vvvf_impl_CheapTree_1_1__lsbs_J1
noncomputable def slices_symMergeCmpFunc_int_e0vvvf_impl_CheapTree_1_1__lsbs_B0 (rc : argP slices_symMergeCmpFunc_int_e0vvvf_impl_CheapTree_1_1__lsbs_a → obP (extObs 0 slices_symMergeCmpFunc_int_e0vvvf_impl_CheapTree_1_1__lsbs_o) → Option slices_symMergeCmpFunc_int_e0vvvf_impl_CheapTree_1_1__lsbs_E.P) : slices_symMergeCmpFunc_int_e0vvvf_impl_CheapTree_1_1__lsbs_J0.P → Option (slices_symMergeCmpFunc_int_e0vvvf_impl_CheapTree_1_1__lsbs_J0.P ⊕ slices_symMergeCmpFunc_int_e0vvvf_impl_CheapTree_1_1__lsbs_O0.P)
  | ((t1, t10, t11, ()), (o0, o1, ())) => bif (decide (t10 < t11)) then (guardB (inb (w64 (Int.fdiv (IntKind.wrap .u64 (w64 (t10 + t11))) (2 ^ (min 1 64)))) (List.length o0)) (guardB (inb t1 (List.length o0)) (match impl_CheapTree_1_vvc ((List.getD o0 (Int.toNat (w64 (Int.fdiv (IntKind.wrap .u64 (w64 (t10 + t11))) (2 ^ (min 1 64))))) (0 : Int)), (List.getD o0 (Int.toNat t1) (0 : Int)), o1, ()) () with | some ((r, ()), ()) => (bif (decide (r < (0 : Int))) then (some (.inl ((t1, (w64 ((w64 (Int.fdiv (IntKind.wrap .u64 (w64 (t10 + t11))) (2 ^ (min 1 64)))) + (1 : Int))), t11, ()), (o0, o1, ())))) else (some (.inl ((t1, t10, (w64 (Int.fdiv (IntKind.wrap .u64 (w64 (t10 + t11))) (2 ^ (min 1 64)))), ()), (o0, o1, ()))))) | none => none))) else (some (.inr ((t1, t10, ()), (o0, o1, ()))))
abbrev slices_symMergeCmpFunc_int_e0vvvf_impl_CheapTree_1_1__lsbs_O1 : Out := .one (.ex 2) slices_symMergeCmpFunc_int_e0vvvf_impl_CheapTree_1_1__lsbs_J3
noncomputable def slices_symMergeCmpFunc_int_e0vvvf_impl_CheapTree_1_1__lsbs_B1 (rc : argP slices_symMergeCmpFunc_int_e0vvvf_impl_CheapTree_1_1__lsbs_a → obP (extObs 0 slices_symMergeCmpFunc_int_e0vvvf_impl_CheapTree_1_1__lsbs_o) → Option slices_symMergeCmpFunc_int_e0vvvf_impl_CheapTree_1_1__lsbs_E.P) : slices_symMergeCmpFunc_int_e0vvvf_impl_CheapTree_1_1__lsbs_J2.P → Option (slices_symMergeCmpFunc_int_e0vvvf_impl_CheapTree_1_1__lsbs_J2.P ⊕ slices_symMergeCmpFunc_int_e0vvvf_impl_CheapTree_1_1__lsbs_O1.P)
  | ((t10, t13, ()), (o0, o1, ())) => bif (decide (t13 < (w64 (t10 - (1 : Int))))) then (guardB (inb (w64 (t13 + (1 : Int))) (List.length o0)) (guardB (inb t13 (List.length o0)) (guardB (inb t13 (List.length o0)) (guardB (inb (w64 (t13 + (1 : Int))) (List.length (List.set o0 (Int.toNat t13) (List.getD o0 (Int.toNat (w64 (t13 + (1 : Int)))) (0 : Int))))) (some (.inl ((t10, (w64 (t13 + (1 : Int))), ()), ((List.set (List.set o0 (Int.toNat t13) (List.getD o0 (Int.toNat (w64 (t13 + (1 : Int)))) (0 : Int))) (Int.toNat (w64 (t13 + (1 : Int)))) (List.getD o0 (Int.toNat t13) (0 : Int))), o1, ())))))))) else (some (.inr ((), (o0, o1, ()))))
abbrev slices_symMergeCmpFunc_int_e0vvvf_impl_CheapTree_1_1__lsbs_O2 : Out := .one (.ex 4) slices_symMergeCmpFunc_int_e0vvvf_impl_CheapTree_1_1__lsbs_J5
noncomputable def slices_symMergeCmpFunc_int_e0vvvf_impl_CheapTree_1_1__lsbs_B2 (rc : argP slices_symMergeCmpFunc_int_e0vvvf_impl_CheapTree_1_1__lsbs_a → obP (extObs 0 slices_symMergeCmpFunc_int_e0vvvf_impl_CheapTree_1_1__lsbs_o) → Option slices_symMergeCmpFunc_int_e0vvvf_impl_CheapTree_1_1__lsbs_E.P) : slices_symMergeCmpFunc_int_e0vvvf_impl_CheapTree_1_1__lsbs_J4.P → Option (slices_symMergeCmpFunc_int_e0vvvf_impl_CheapTree_1_1__lsbs_J4.P ⊕ slices_symMergeCmpFunc_int_e0vvvf_impl_CheapTree_1_1__lsbs_O2.P)
  | ((t2, t14, t15, ()), (o0, o1, ())) => bif (decide (t14 < t15)) then (guardB (inb t2 (List.length o0)) (guardB (inb (w64 (Int.fdiv (IntKind.wrap .u64 (w64 (t14 + t15))) (2 ^ (min 1 64)))) (List.length o0)) (match impl_CheapTree_1_vvc ((List.getD o0 (Int.toNat t2) (0 : Int)), (List.getD o0 (Int.toNat (w64 (Int.fdiv (IntKind.wrap .u64 (w64 (t14 + t15))) (2 ^ (min 1 64))))) (0 : Int)), o1, ()) () with | some ((r, ()), ()) => (bif (!(decide (r < (0 : Int)))) then (some (.inl ((t2, (w64 ((w64 (Int.fdiv (IntKind.wrap .u64 (w64 (t14 + t15))) (2 ^ (min 1 64)))) + (1 : Int))), t15, ()), (o0, o1, ())))) else (some (.inl ((t2, t14, (w64 (Int.fdiv (IntKind.wrap .u64 (w64 (t14 + t15))) (2 ^ (min 1 64)))), ()), (o0, o1, ()))))) | none => none))) else (some (.inr ((t2, t14, ()), (o0, o1, ()))))
abbrev slices_symMergeCmpFunc_int_e0vvvf_impl_CheapTree_1_1__lsbs_O3 : Out := .one (.ex 6) slices_symMergeCmpFunc_int_e0vvvf_impl_CheapTree_1_1__lsbs_J3
noncomputable def slices_symMergeCmpFunc_int_e0vvvf_impl_CheapTree_1_1__lsbs_B3 (rc : argP slices_symMergeCmpFunc_int_e0vvvf_impl_CheapTree_1_1__lsbs_a → obP (extObs 0 slices_symMergeCmpFunc_int_e0vvvf_impl_CheapTree_1_1__lsbs_o) → Option slices_symMergeCmpFunc_int_e0vvvf_impl_CheapTree_1_1__lsbs_E.P) : slices_symMergeCmpFunc_int_e0vvvf_impl_CheapTree_1_1__lsbs_J6.P → Option (slices_symMergeCmpFunc_int_e0vvvf_impl_CheapTree_1_1__lsbs_J6.P ⊕ slices_symMergeCmpFunc_int_e0vvvf_impl_CheapTree_1_1__lsbs_O3.P)
  | ((t14, t17, ()), (o0, o1, ())) => bif (decide (t14 < t17)) then (guardB (inb (w64 (t17 - (1 : Int))) (List.length o0)) (guardB (inb t17 (List.length o0)) (guardB (inb t17 (List.length o0)) (guardB (inb (w64 (t17 - (1 : Int))) (List.length (List.set o0 (Int.toNat t17) (List.getD o0 (Int.toNat (w64 (t17 - (1 : Int)))) (0 : Int))))) (some (.inl ((t14, (w64 (t17 - (1 : Int))), ()), ((List.set (List.set o0 (Int.toNat t17) (List.getD o0 (Int.toNat (w64 (t17 - (1 : Int)))) (0 : Int))) (Int.toNat (w64 (t17 - (1 : Int)))) (List.getD o0 (Int.toNat t17) (0 : Int))), o1, ())))))))) else (some (.inr ((), (o0, o1, ()))))
abbrev slices_symMergeCmpFunc_int_e0vvvf_impl_CheapTree_1_1__lsbs_O4 : Out := .one (.ex 8) slices_symMergeCmpFunc_int_e0vvvf_impl_CheapTree_1_1__lsbs_J9
noncomputable def slices_symMergeCmpFunc_int_e0vvvf_impl_CheapTree_1_1__lsbs_B4 (rc : argP slices_symMergeCmpFunc_int_e0vvvf_impl_CheapTree_1_1__lsbs_a → obP (extObs 0 slices_symMergeCmpFunc_int_e0vvvf_impl_CheapTree_1_1__lsbs_o) → Option slices_symMergeCmpFunc_int_e0vvvf_impl_CheapTree_1_1__lsbs_E.P) : slices_symMergeCmpFunc_int_e0vvvf_impl_CheapTree_1_1__lsbs_J8.P → Option (slices_symMergeCmpFunc_int_e0vvvf_impl_CheapTree_1_1__lsbs_J8.P ⊕ slices_symMergeCmpFunc_int_e0vvvf_impl_CheapTree_1_1__lsbs_O4.P)
  | ((t1, t2, t3, t18, t19, t20, t21, t22, ()), (o0, o1, ())) => bif (decide (t20 < t21)) then (guardB (inb (w64 (t22 - (w64 (Int.fdiv (IntKind.wrap .u64 (w64 (t20 + t21))) (2 ^ (min 1 64)))))) (List.length o0)) (guardB (inb (w64 (Int.fdiv (IntKind.wrap .u64 (w64 (t20 + t21))) (2 ^ (min 1 64)))) (List.length o0)) (match impl_CheapTree_1_vvc ((List.getD o0 (Int.toNat (w64 (t22 - (w64 (Int.fdiv (IntKind.wrap .u64 (w64 (t20 + t21))) (2 ^ (min 1 64))))))) (0 : Int)), (List.getD o0 (Int.toNat (w64 (Int.fdiv (IntKind.wrap .u64 (w64 (t20 + t21))) (2 ^ (min 1 64))))) (0 : Int)), o1, ()) () with | some ((r, ()), ()) => (bif (!(decide (r < (0 : Int)))) then (some (.inl ((t1, t2, t3, t18, t19, (w64 ((w64 (Int.fdiv (IntKind.wrap .u64 (w64 (t20 + t21))) (2 ^ (min 1 64)))) + (1 : Int))), t21, t22, ()), (o0, o1, ())))) else (some (.inl ((t1, t2, t3, t18, t19, t20, (w64 (Int.fdiv (IntKind.wrap .u64 (w64 (t20 + t21))) (2 ^ (min 1 64)))), t22, ()), (o0, o1, ()))))) | none => none))) else (some (.inr ((t1, t2, t3, t18, t19, t20, ()), (o0, o1, ()))))
noncomputable def slices_symMergeCmpFunc_int_e0vvvf_impl_CheapTree_1_1__lsbs_F (rc : argP slices_symMergeCmpFunc_int_e0vvvf_impl_CheapTree_1_1__lsbs_a → obP (extObs 0 slices_symMergeCmpFunc_int_e0vvvf_impl_CheapTree_1_1__lsbs_o) → Option slices_symMergeCmpFunc_int_e0vvvf_impl_CheapTree_1_1__lsbs_E.P) : argP slices_symMergeCmpFunc_int_e0vvvf_impl_CheapTree_1_1__lsbs_a → obP (extObs 0 slices_symMergeCmpFunc_int_e0vvvf_impl_CheapTree_1_1__lsbs_o) → Option slices_symMergeCmpFunc_int_e0vvvf_impl_CheapTree_1_1__lsbs_E.P
  | (t1, t2, t3, ()), (o0, o1, ()) => bif ((w64 (t2 - t1)) == (1 : Int)) then (match loopO (slices_symMergeCmpFunc_int_e0vvvf_impl_CheapTree_1_1__lsbs_B0 rc) ((t1, t2, t3, ()), (o0, o1, ())) with | some ((t1_2, t10, ()), (o0_2, o1_2, ())) => (match loopO (slices_symMergeCmpFunc_int_e0vvvf_impl_CheapTree_1_1__lsbs_B1 rc) ((t10, t1_2, ()), (o0_2, o1_2, ())) with | some ((), (o0_3, o1_3, ())) => some ((), (o0_3, o1_3, ())) | none => none) | none => none) else (bif ((w64 (t3 - t2)) == (1 : Int)) then (match loopO (slices_symMergeCmpFunc_int_e0vvvf_impl_CheapTree_1_1__lsbs_B2 rc) ((t2, t1, t2, ()), (o0, o1, ())) with | some ((t2_2, t14, ()), (o0_4, o1_4, ())) => (match loopO (slices_symMergeCmpFunc_int_e0vvvf_impl_CheapTree_1_1__lsbs_B3 rc) ((t14, t2_2, ()), (o0_4, o1_4, ())) with | some ((), (o0_5, o1_5, ())) => some ((), (o0_5, o1_5, ())) | none => none) | none => none) else (match (bif (decide ((w64 (Int.fdiv (IntKind.wrap .u64 (w64 (t1 + t3))) (2 ^ (min 1 64)))) < t2)) then (some (.inl ((t1, t2, t3, (w64 (Int.fdiv (IntKind.wrap .u64 (w64 (t1 + t3))) (2 ^ (min 1 64)))), (w64 ((w64 (Int.fdiv (IntKind.wrap .u64 (w64 (t1 + t3))) (2 ^ (min 1 64)))) + t2)), (w64 ((w64 ((w64 (Int.fdiv (IntKind.wrap .u64 (w64 (t1 + t3))) (2 ^ (min 1 64)))) + t2)) - t3)), (w64 (Int.fdiv (IntKind.wrap .u64 (w64 (t1 + t3))) (2 ^ (min 1 64)))), ()), (o0, o1, ())))) else (some (.inl ((t1, t2, t3, (w64 (Int.fdiv (IntKind.wrap .u64 (w64 (t1 + t3))) (2 ^ (min 1 64)))), (w64 ((w64 (Int.fdiv (IntKind.wrap .u64 (w64 (t1 + t3))) (2 ^ (min 1 64)))) + t2)), t1, t2, ()), (o0, o1, ())))) : Option (slices_symMergeCmpFunc_int_e0vvvf_impl_CheapTree_1_1__lsbs_J7.P ⊕ slices_symMergeCmpFunc_int_e0vvvf_impl_CheapTree_1_1__lsbs_E.P)) with | some (.inl ((t1_3, t2_3, t3_2, t18, t19, t20, t21, ()), (o0_6, o1_6, ()))) => (match loopO (slices_symMergeCmpFunc_int_e0vvvf_impl_CheapTree_1_1__lsbs_B4 rc) ((t1_3, t2_3, t3_2, t18, t19, t20, t21, (w64 (t19 - (1 : Int))), ()), (o0_6, o1_6, ())) with | some ((t1_4, t2_4, t3_3, t18_2, t19_2, t20_2, ()), (o0_7, o1_7, ())) => (match (bif (decide (t20_2 < t2_4)) then (bif (decide (t2_4 < (w64 (t19_2 - t20_2)))) then (match slices_rotateCmpFunc_int_e0vvvf_impl_CheapTree_1_1__lsbs (t20_2, t2_4, (w64 (t19_2 - t20_2)), ()) (o0_7, o1_7, ()) with | some ((), (o, o2, ())) => some (.inl ((t1_4, t3_3, t18_2, t20_2, (w64 (t19_2 - t20_2)), ()), (o, o2, ()))) | none => none) else (some (.inl ((t1_4, t3_3, t18_2, t20_2, (w64 (t19_2 - t20_2)), ()), (o0_7, o1_7, ()))))) else (some (.inl ((t1_4, t3_3, t18_2, t20_2, (w64 (t19_2 - t20_2)), ()), (o0_7, o1_7, ())))) : Option (slices_symMergeCmpFunc_int_e0vvvf_impl_CheapTree_1_1__lsbs_J10.P ⊕ slices_symMergeCmpFunc_int_e0vvvf_impl_CheapTree_1_1__lsbs_E.P)) with | some (.inl ((t1_5, t3_4, t18_3, t20_3, t24, ()), (o0_8, o1_8, ()))) => (bif (decide (t1_5 < t20_3)) then (bif (decide (t20_3 < t18_3)) then (match rc (t1_5, t20_3, t18_3, ()) (o0_8, o1_8, ()) with | some ((), (o3, o4, ())) => (bif (decide (t18_3 < t24)) then (bif (decide (t24 < t3_4)) then (match rc (t18_3, t24, t3_4, ()) (o3, o4, ()) with | some ((), (o5, o6, ())) => some ((), (o5, o6, ())) | none => none) else (some ((), (o3, o4, ())))) else (some ((), (o3, o4, ())))) | none => none) else (bif (decide (t18_3 < t24)) then (bif (decide (t24 < t3_4)) then (match rc (t18_3, t24, t3_4, ()) (o0_8, o1_8, ()) with | some ((), (o7, o8, ())) => some ((), (o7, o8, ())) | none => none) else (some ((), (o0_8, o1_8, ())))) else (some ((), (o0_8, o1_8, ()))))) else (bif (decide (t18_3 < t24)) then (bif (decide (t24 < t3_4)) then (match rc (t18_3, t24, t3_4, ()) (o0_8, o1_8, ()) with | some ((), (o9, o10, ())) => some ((), (o9, o10, ())) | none => none) else (some ((), (o0_8, o1_8, ())))) else (some ((), (o0_8, o1_8, ()))))) | some (.inr r) => some r | none => none) | none => none) | some (.inr r) => some r | none => none))
noncomputable def slices_symMergeCmpFunc_int_e0vvvf_impl_CheapTree_1_1__lsbs : argP slices_symMergeCmpFunc_int_e0vvvf_impl_CheapTree_1_1__lsbs_a → obP (extObs 0 slices_symMergeCmpFunc_int_e0vvvf_impl_CheapTree_1_1__lsbs_o) → Option slices_symMergeCmpFunc_int_e0vvvf_impl_CheapTree_1_1__lsbs_E.P := fuelF slices_symMergeCmpFunc_int_e0vvvf_impl_CheapTree_1_1__lsbs_F 1000
noncomputable def slices_symMergeCmpFunc_int_e0vvvf_impl_CheapTree_1_1__lsbs_x (rc : argP slices_symMergeCmpFunc_int_e0vvvf_impl_CheapTree_1_1__lsbs_a → obP (extObs 0 slices_symMergeCmpFunc_int_e0vvvf_impl_CheapTree_1_1__lsbs_o) → Option slices_symMergeCmpFunc_int_e0vvvf_impl_CheapTree_1_1__lsbs_E.P) : Cx := ⟨tab, more slices_rotateCmpFunc_int_e0vvvf_impl_CheapTree_1_1__lsbs_e ⟨159, slices_symMergeCmpFunc_int_e0vvvf_impl_CheapTree_1_1__lsbs_a, slices_symMergeCmpFunc_int_e0vvvf_impl_CheapTree_1_1__lsbs_o, slices_symMergeCmpFunc_int_e0vvvf_impl_CheapTree_1_1__lsbs_E, rc⟩, fun f n => bif Nat.beq f 159 && Nat.beq n 0 then 1 else bif Nat.beq f 176 && Nat.beq n 0 then 1 else 0, fun _ => false, [(49, 0), (49, 1), (49, 2), (49, 3), (101, 0), (101, 1), (101, 2), (101, 3), (169, 0), (169, 1), (169, 2), (169, 3), (191, 0), (191, 1), (191, 2), (191, 3), (205, 0), (205, 1), (205, 2), (205, 3), (219, 0), (219, 1), (219, 2), (219, 3)], []⟩
noncomputable def c159 : Code := bodyOf Try.f159
noncomputable def slices_symMergeCmpFunc_int_e0vvvf_impl_CheapTree_1_1__lsbs_A (rc : argP slices_symMergeCmpFunc_int_e0vvvf_impl_CheapTree_1_1__lsbs_a → obP (extObs 0 slices_symMergeCmpFunc_int_e0vvvf_impl_CheapTree_1_1__lsbs_o) → Option slices_symMergeCmpFunc_int_e0vvvf_impl_CheapTree_1_1__lsbs_E.P) : Ann := .seq (.seq .nil (.seq (.seq .nil (.seq .nil (.seq (.loop slices_symMergeCmpFunc_int_e0vvvf_impl_CheapTree_1_1__lsbs_J0 slices_symMergeCmpFunc_int_e0vvvf_impl_CheapTree_1_1__lsbs_O0 (slices_symMergeCmpFunc_int_e0vvvf_impl_CheapTree_1_1__lsbs_B0 rc) (.seq .nil (.seq .nil (.seq (.draw [(0, .flo), (1, .flo), (2, .flo), (3, .flo), (5, .flo), (6, .flo), (7, .flo), (4, .qui), (8, .qui), (9, .sole), (10, .flo)]) .nil)))) (.seq (.seq .nil (.loop slices_symMergeCmpFunc_int_e0vvvf_impl_CheapTree_1_1__lsbs_J2 slices_symMergeCmpFunc_int_e0vvvf_impl_CheapTree_1_1__lsbs_O1 (slices_symMergeCmpFunc_int_e0vvvf_impl_CheapTree_1_1__lsbs_B1 rc) (.seq .nil (.seq (.draw [(0, .flo), (1, .flo), (2, .flo), (3, .flo), (4, .flo), (5, .flo), (6, .flo), (7, .flo), (8, .flo), (10, .flo), (11, .flo), (12, .flo), (9, .qui), (13, .qui), (14, .flo), (15, .sole), (16, .flo), (17, .sole)]) .nil)))) .nil)))) .nil)) (.seq (.seq .nil (.seq (.seq .nil (.seq .nil (.seq (.loop slices_symMergeCmpFunc_int_e0vvvf_impl_CheapTree_1_1__lsbs_J4 slices_symMergeCmpFunc_int_e0vvvf_impl_CheapTree_1_1__lsbs_O2 (slices_symMergeCmpFunc_int_e0vvvf_impl_CheapTree_1_1__lsbs_B2 rc) (.seq .nil (.seq .nil (.seq (.draw [(0, .flo), (1, .flo), (2, .flo), (3, .flo), (5, .flo), (6, .flo), (7, .flo), (4, .qui), (8, .qui), (9, .sole), (10, .flo), (11, .flo)]) .nil)))) (.seq (.seq .nil (.loop slices_symMergeCmpFunc_int_e0vvvf_impl_CheapTree_1_1__lsbs_J6 slices_symMergeCmpFunc_int_e0vvvf_impl_CheapTree_1_1__lsbs_O3 (slices_symMergeCmpFunc_int_e0vvvf_impl_CheapTree_1_1__lsbs_B3 rc) (.seq .nil (.seq (.draw [(0, .flo), (1, .flo), (2, .flo), (3, .flo), (4, .flo), (5, .flo), (6, .flo), (7, .flo), (8, .flo), (10, .flo), (11, .flo), (12, .flo), (9, .qui), (13, .qui), (14, .flo), (15, .sole), (16, .flo), (17, .sole)]) .nil)))) .nil)))) .nil)) (.seq .nil (.seq .nil (.seq .nil (.cut slices_symMergeCmpFunc_int_e0vvvf_impl_CheapTree_1_1__lsbs_J7 .nil (.seq .nil (.seq (.loop slices_symMergeCmpFunc_int_e0vvvf_impl_CheapTree_1_1__lsbs_J8 slices_symMergeCmpFunc_int_e0vvvf_impl_CheapTree_1_1__lsbs_O4 (slices_symMergeCmpFunc_int_e0vvvf_impl_CheapTree_1_1__lsbs_B4 rc) (.seq .nil (.seq .nil (.seq (.draw [(0, .flo), (1, .flo), (2, .flo), (3, .flo), (4, .flo), (5, .flo), (7, .flo), (8, .flo), (9, .flo), (6, .qui), (10, .qui), (11, .sole), (12, .flo), (13, .flo)]) .nil)))) (.seq .nil (.cut slices_symMergeCmpFunc_int_e0vvvf_impl_CheapTree_1_1__lsbs_J10 .nil .nil)))))))))
theorem slices_symMergeCmpFunc_int_e0vvvf_impl_CheapTree_1_1__lsbs_r0 (rc : argP slices_symMergeCmpFunc_int_e0vvvf_impl_CheapTree_1_1__lsbs_a → obP (extObs 0 slices_symMergeCmpFunc_int_e0vvvf_impl_CheapTree_1_1__lsbs_o) → Option slices_symMergeCmpFunc_int_e0vvvf_impl_CheapTree_1_1__lsbs_E.P) (p : slices_symMergeCmpFunc_int_e0vvvf_impl_CheapTree_1_1__lsbs_J0.P) : run (slices_symMergeCmpFunc_int_e0vvvf_impl_CheapTree_1_1__lsbs_x rc) (subc [0, 1, 0, 1, 1, 0, 0, 0] c159) (.seq .nil (.seq .nil (.seq (.draw [(0, .flo), (1, .flo), (2, .flo), (3, .flo), (5, .flo), (6, .flo), (7, .flo), (4, .qui), (8, .qui), (9, .sole), (10, .flo)]) .nil))) (slices_symMergeCmpFunc_int_e0vvvf_impl_CheapTree_1_1__lsbs_J0.S p) (leaf slices_symMergeCmpFunc_int_e0vvvf_impl_CheapTree_1_1__lsbs_J0 slices_symMergeCmpFunc_int_e0vvvf_impl_CheapTree_1_1__lsbs_O0) = (slices_symMergeCmpFunc_int_e0vvvf_impl_CheapTree_1_1__lsbs_B0 rc) p := by kernel_rfl
theorem slices_symMergeCmpFunc_int_e0vvvf_impl_CheapTree_1_1__lsbs_r1 (rc : argP slices_symMergeCmpFunc_int_e0vvvf_impl_CheapTree_1_1__lsbs_a → obP (extObs 0 slices_symMergeCmpFunc_int_e0vvvf_impl_CheapTree_1_1__lsbs_o) → Option slices_symMergeCmpFunc_int_e0vvvf_impl_CheapTree_1_1__lsbs_E.P) (p : slices_symMergeCmpFunc_int_e0vvvf_impl_CheapTree_1_1__lsbs_J2.P) : run (slices_symMergeCmpFunc_int_e0vvvf_impl_CheapTree_1_1__lsbs_x rc) (subc [0, 1, 0, 1, 1, 1, 0, 1, 0, 0] c159) (.seq .nil (.seq (.draw [(0, .flo), (1, .flo), (2, .flo), (3, .flo), (4, .flo), (5, .flo), (6, .flo), (7, .flo), (8, .flo), (10, .flo), (11, .flo), (12, .flo), (9, .qui), (13, .qui), (14, .flo), (15, .sole), (16, .flo), (17, .sole)]) .nil)) (slices_symMergeCmpFunc_int_e0vvvf_impl_CheapTree_1_1__lsbs_J2.S p) (leaf slices_symMergeCmpFunc_int_e0vvvf_impl_CheapTree_1_1__lsbs_J2 slices_symMergeCmpFunc_int_e0vvvf_impl_CheapTree_1_1__lsbs_O1) = (slices_symMergeCmpFunc_int_e0vvvf_impl_CheapTree_1_1__lsbs_B1 rc) p := by kernel_rfl
theorem slices_symMergeCmpFunc_int_e0vvvf_impl_CheapTree_1_1__lsbs_r2 (rc : argP slices_symMergeCmpFunc_int_e0vvvf_impl_CheapTree_1_1__lsbs_a → obP (extObs 0 slices_symMergeCmpFunc_int_e0vvvf_impl_CheapTree_1_1__lsbs_o) → Option slices_symMergeCmpFunc_int_e0vvvf_impl_CheapTree_1_1__lsbs_E.P) (p : slices_symMergeCmpFunc_int_e0vvvf_impl_CheapTree_1_1__lsbs_J4.P) : run (slices_symMergeCmpFunc_int_e0vvvf_impl_CheapTree_1_1__lsbs_x rc) (subc [1, 0, 1, 0, 1, 1, 0, 0, 0] c159) (.seq .nil (.seq .nil (.seq (.draw [(0, .flo), (1, .flo), (2, .flo), (3, .flo), (5, .flo), (6, .flo), (7, .flo), (4, .qui), (8, .qui), (9, .sole), (10, .flo), (11, .flo)]) .nil))) (slices_symMergeCmpFunc_int_e0vvvf_impl_CheapTree_1_1__lsbs_J4.S p) (leaf slices_symMergeCmpFunc_int_e0vvvf_impl_CheapTree_1_1__lsbs_J4 slices_symMergeCmpFunc_int_e0vvvf_impl_CheapTree_1_1__lsbs_O2) = (slices_symMergeCmpFunc_int_e0vvvf_impl_CheapTree_1_1__lsbs_B2 rc) p := by kernel_rfl
theorem slices_symMergeCmpFunc_int_e0vvvf_impl_CheapTree_1_1__lsbs_r3 (rc : argP slices_symMergeCmpFunc_int_e0vvvf_impl_CheapTree_1_1__lsbs_a → obP (extObs 0 slices_symMergeCmpFunc_int_e0vvvf_impl_CheapTree_1_1__lsbs_o) → Option slices_symMergeCmpFunc_int_e0vvvf_impl_CheapTree_1_1__lsbs_E.P) (p : slices_symMergeCmpFunc_int_e0vvvf_impl_CheapTree_1_1__lsbs_J6.P) : run (slices_symMergeCmpFunc_int_e0vvvf_impl_CheapTree_1_1__lsbs_x rc) (subc [1, 0, 1, 0, 1, 1, 1, 0, 1, 0, 0] c159) (.seq .nil (.seq (.draw [(0, .flo), (1, .flo), (2, .flo), (3, .flo), (4, .flo), (5, .flo), (6, .flo), (7, .flo), (8, .flo), (10, .flo), (11, .flo), (12, .flo), (9, .qui), (13, .qui), (14, .flo), (15, .sole), (16, .flo), (17, .sole)]) .nil)) (slices_symMergeCmpFunc_int_e0vvvf_impl_CheapTree_1_1__lsbs_J6.S p) (leaf slices_symMergeCmpFunc_int_e0vvvf_impl_CheapTree_1_1__lsbs_J6 slices_symMergeCmpFunc_int_e0vvvf_impl_CheapTree_1_1__lsbs_O3) = (slices_symMergeCmpFunc_int_e0vvvf_impl_CheapTree_1_1__lsbs_B3 rc) p := by kernel_rfl
theorem slices_symMergeCmpFunc_int_e0vvvf_impl_CheapTree_1_1__lsbs_r4 (rc : argP slices_symMergeCmpFunc_int_e0vvvf_impl_CheapTree_1_1__lsbs_a → obP (extObs 0 slices_symMergeCmpFunc_int_e0vvvf_impl_CheapTree_1_1__lsbs_o) → Option slices_symMergeCmpFunc_int_e0vvvf_impl_CheapTree_1_1__lsbs_E.P) (p : slices_symMergeCmpFunc_int_e0vvvf_impl_CheapTree_1_1__lsbs_J8.P) : run (slices_symMergeCmpFunc_int_e0vvvf_impl_CheapTree_1_1__lsbs_x rc) (subc [1, 1, 1, 1, 1, 1, 1, 0, 0, 0] c159) (.seq .nil (.seq .nil (.seq (.draw [(0, .flo), (1, .flo), (2, .flo), (3, .flo), (4, .flo), (5, .flo), (7, .flo), (8, .flo), (9, .flo), (6, .qui), (10, .qui), (11, .sole), (12, .flo), (13, .flo)]) .nil))) (slices_symMergeCmpFunc_int_e0vvvf_impl_CheapTree_1_1__lsbs_J8.S p) (leaf slices_symMergeCmpFunc_int_e0vvvf_impl_CheapTree_1_1__lsbs_J8 slices_symMergeCmpFunc_int_e0vvvf_impl_CheapTree_1_1__lsbs_O4) = (slices_symMergeCmpFunc_int_e0vvvf_impl_CheapTree_1_1__lsbs_B4 rc) p := by kernel_rfl
noncomputable def slices_symMergeCmpFunc_int_e0vvvf_impl_CheapTree_1_1__lsbs_D : Ve.Fn := ⟨159, slices_symMergeCmpFunc_int_e0vvvf_impl_CheapTree_1_1__lsbs_a, slices_symMergeCmpFunc_int_e0vvvf_impl_CheapTree_1_1__lsbs_o, slices_symMergeCmpFunc_int_e0vvvf_impl_CheapTree_1_1__lsbs_E, slices_symMergeCmpFunc_int_e0vvvf_impl_CheapTree_1_1__lsbs⟩
theorem slices_symMergeCmpFunc_int_e0vvvf_impl_CheapTree_1_1__lsbs_w (rc : argP slices_symMergeCmpFunc_int_e0vvvf_impl_CheapTree_1_1__lsbs_a → obP (extObs 0 slices_symMergeCmpFunc_int_e0vvvf_impl_CheapTree_1_1__lsbs_o) → Option slices_symMergeCmpFunc_int_e0vvvf_impl_CheapTree_1_1__lsbs_E.P) : Walk Try.prog (slices_symMergeCmpFunc_int_e0vvvf_impl_CheapTree_1_1__lsbs_x rc) ⟨159, slices_symMergeCmpFunc_int_e0vvvf_impl_CheapTree_1_1__lsbs_a, slices_symMergeCmpFunc_int_e0vvvf_impl_CheapTree_1_1__lsbs_o, slices_symMergeCmpFunc_int_e0vvvf_impl_CheapTree_1_1__lsbs_E, slices_symMergeCmpFunc_int_e0vvvf_impl_CheapTree_1_1__lsbs_F rc⟩ Try.f159 c159 220 (slices_symMergeCmpFunc_int_e0vvvf_impl_CheapTree_1_1__lsbs_A rc) :=
  ⟨⟨Try.func159, by kernel_rfl, by kernel_rfl, by kernel_rfl, by decide, by kernel_rfl, Nat.le_of_ble_eq_true (by kernel_rfl)⟩, by kernel_rfl, by kernel_rfl, by kernel_rfl, kcast (by kernel_rfl) (⟨(slices_symMergeCmpFunc_int_e0vvvf_impl_CheapTree_1_1__lsbs_r0 rc), (slices_symMergeCmpFunc_int_e0vvvf_impl_CheapTree_1_1__lsbs_r1 rc), (slices_symMergeCmpFunc_int_e0vvvf_impl_CheapTree_1_1__lsbs_r2 rc), (slices_symMergeCmpFunc_int_e0vvvf_impl_CheapTree_1_1__lsbs_r3 rc), (slices_symMergeCmpFunc_int_e0vvvf_impl_CheapTree_1_1__lsbs_r4 rc), trivial⟩ : (∀ p, run (slices_symMergeCmpFunc_int_e0vvvf_impl_CheapTree_1_1__lsbs_x rc) (subc [0, 1, 0, 1, 1, 0, 0, 0] c159) (.seq .nil (.seq .nil (.seq (.draw [(0, .flo), (1, .flo), (2, .flo), (3, .flo), (5, .flo), (6, .flo), (7, .flo), (4, .qui), (8, .qui), (9, .sole), (10, .flo)]) .nil))) (slices_symMergeCmpFunc_int_e0vvvf_impl_CheapTree_1_1__lsbs_J0.S p) (leaf slices_symMergeCmpFunc_int_e0vvvf_impl_CheapTree_1_1__lsbs_J0 slices_symMergeCmpFunc_int_e0vvvf_impl_CheapTree_1_1__lsbs_O0) = (slices_symMergeCmpFunc_int_e0vvvf_impl_CheapTree_1_1__lsbs_B0 rc) p) ∧ (∀ p, run (slices_symMergeCmpFunc_int_e0vvvf_impl_CheapTree_1_1__lsbs_x rc) (subc [0, 1, 0, 1, 1, 1, 0, 1, 0, 0] c159) (.seq .nil (.seq (.draw [(0, .flo), (1, .flo), (2, .flo), (3, .flo), (4, .flo), (5, .flo), (6, .flo), (7, .flo), (8, .flo), (10, .flo), (11, .flo), (12, .flo), (9, .qui), (13, .qui), (14, .flo), (15, .sole), (16, .flo), (17, .sole)]) .nil)) (slices_symMergeCmpFunc_int_e0vvvf_impl_CheapTree_1_1__lsbs_J2.S p) (leaf slices_symMergeCmpFunc_int_e0vvvf_impl_CheapTree_1_1__lsbs_J2 slices_symMergeCmpFunc_int_e0vvvf_impl_CheapTree_1_1__lsbs_O1) = (slices_symMergeCmpFunc_int_e0vvvf_impl_CheapTree_1_1__lsbs_B1 rc) p) ∧ (∀ p, run (slices_symMergeCmpFunc_int_e0vvvf_impl_CheapTree_1_1__lsbs_x rc) (subc [1, 0, 1, 0, 1, 1, 0, 0, 0] c159) (.seq .nil (.seq .nil (.seq (.draw [(0, .flo), (1, .flo), (2, .flo), (3, .flo), (5, .flo), (6, .flo), (7, .flo), (4, .qui), (8, .qui), (9, .sole), (10, .flo), (11, .flo)]) .nil))) (slices_symMergeCmpFunc_int_e0vvvf_impl_CheapTree_1_1__lsbs_J4.S p) (leaf slices_symMergeCmpFunc_int_e0vvvf_impl_CheapTree_1_1__lsbs_J4 slices_symMergeCmpFunc_int_e0vvvf_impl_CheapTree_1_1__lsbs_O2) = (slices_symMergeCmpFunc_int_e0vvvf_impl_CheapTree_1_1__lsbs_B2 rc) p) ∧ (∀ p, run (slices_symMergeCmpFunc_int_e0vvvf_impl_CheapTree_1_1__lsbs_x rc) (subc [1, 0, 1, 0, 1, 1, 1, 0, 1, 0, 0] c159) (.seq .nil (.seq (.draw [(0, .flo), (1, .flo), (2, .flo), (3, .flo), (4, .flo), (5, .flo), (6, .flo), (7, .flo), (8, .flo), (10, .flo), (11, .flo), (12, .flo), (9, .qui), (13, .qui), (14, .flo), (15, .sole), (16, .flo), (17, .sole)]) .nil)) (slices_symMergeCmpFunc_int_e0vvvf_impl_CheapTree_1_1__lsbs_J6.S p) (leaf slices_symMergeCmpFunc_int_e0vvvf_impl_CheapTree_1_1__lsbs_J6 slices_symMergeCmpFunc_int_e0vvvf_impl_CheapTree_1_1__lsbs_O3) = (slices_symMergeCmpFunc_int_e0vvvf_impl_CheapTree_1_1__lsbs_B3 rc) p) ∧ (∀ p, run (slices_symMergeCmpFunc_int_e0vvvf_impl_CheapTree_1_1__lsbs_x rc) (subc [1, 1, 1, 1, 1, 1, 1, 0, 0, 0] c159) (.seq .nil (.seq .nil (.seq (.draw [(0, .flo), (1, .flo), (2, .flo), (3, .flo), (4, .flo), (5, .flo), (7, .flo), (8, .flo), (9, .flo), (6, .qui), (10, .qui), (11, .sole), (12, .flo), (13, .flo)]) .nil))) (slices_symMergeCmpFunc_int_e0vvvf_impl_CheapTree_1_1__lsbs_J8.S p) (leaf slices_symMergeCmpFunc_int_e0vvvf_impl_CheapTree_1_1__lsbs_J8 slices_symMergeCmpFunc_int_e0vvvf_impl_CheapTree_1_1__lsbs_O4) = (slices_symMergeCmpFunc_int_e0vvvf_impl_CheapTree_1_1__lsbs_B4 rc) p) ∧ True), by kernel_rfl, fun x y => by kernel_rfl⟩
theorem slices_symMergeCmpFunc_int_e0vvvf_impl_CheapTree_1_1__lsbs_s : slices_symMergeCmpFunc_int_e0vvvf_impl_CheapTree_1_1__lsbs_D.Says Try.prog := fuel_says (fun rc h => (slices_symMergeCmpFunc_int_e0vvvf_impl_CheapTree_1_1__lsbs_w rc).says follows tabOk (more_ok slices_rotateCmpFunc_int_e0vvvf_impl_CheapTree_1_1__lsbs_e_ok h)) 1000
noncomputable def slices_symMergeCmpFunc_int_e0vvvf_impl_CheapTree_1_1__lsbs_e : Env := more slices_rotateCmpFunc_int_e0vvvf_impl_CheapTree_1_1__lsbs_e slices_symMergeCmpFunc_int_e0vvvf_impl_CheapTree_1_1__lsbs_D
theorem slices_symMergeCmpFunc_int_e0vvvf_impl_CheapTree_1_1__lsbs_e_ok : EnvOk Try.prog slices_symMergeCmpFunc_int_e0vvvf_impl_CheapTree_1_1__lsbs_e := more_ok slices_rotateCmpFunc_int_e0vvvf_impl_CheapTree_1_1__lsbs_e_ok slices_symMergeCmpFunc_int_e0vvvf_impl_CheapTree_1_1__lsbs_s
/-! slices.stableCmpFunc[int] -/
abbrev slices_stableCmpFunc_int_e0vf_impl_CheapTree_1_1__lsbs_J0 : Tpl := ⟨[(0, .same (1000000, 0) []), (1, .val I), (2, .fn ⟨93, [(1000001, 0)]⟩), (6, .val I), (7, .val I), (8, .val I)], [((1000000, 0), .vec .shr I), ((1000001, 0), .box .shr (.list I))], []⟩
abbrev slices_stableCmpFunc_int_e0vf_impl_CheapTree_1_1__lsbs_J1 : Tpl := ⟨[(0, .same (1000000, 0) []), (1, .val I), (2, .fn ⟨93, [(1000001, 0)]⟩), (6, .val I), (7, .val I)], [((1000000, 0), .vec .shr I), ((1000001, 0), .box .shr (.list I))], []⟩
abbrev slices_stableCmpFunc_int_e0vf_impl_CheapTree_1_1__lsbs_J2 : Tpl := ⟨[(0, .same (1000000, 0) []), (1, .val I), (2, .fn ⟨93, [(1000001, 0)]⟩), (6, .val I)], [((1000000, 0), .vec .shr I), ((1000001, 0), .box .shr (.list I))], []⟩
abbrev slices_stableCmpFunc_int_e0vf_impl_CheapTree_1_1__lsbs_J3 : Tpl := ⟨[], [((1000000, 0), .vec .shr I), ((1000001, 0), .box .shr (.list I))], []⟩
abbrev slices_stableCmpFunc_int_e0vf_impl_CheapTree_1_1__lsbs_E : Ve.End := ⟨[], [.vec .shr I, .box .shr (.list I)]⟩
abbrev slices_stableCmpFunc_int_e0vf_impl_CheapTree_1_1__lsbs_a : List ASh := [.ext 0, .val I, .fn 93 [1]]
abbrev slices_stableCmpFunc_int_e0vf_impl_CheapTree_1_1__lsbs_o : List OSh := [.vec .shr I, .box .shr (.list I)]
abbrev slices_stableCmpFunc_int_e0vf_impl_CheapTree_1_1__lsbs_O0 : Out := .one (.ex 0) slices_stableCmpFunc_int_e0vf_impl_CheapTree_1_1__lsbs_J1
noncomputable def slices_stableCmpFunc_int_e0vf_impl_CheapTree_1_1__lsbs_B0 : slices_stableCmpFunc_int_e0vf_impl_CheapTree_1_1__lsbs_J0.P → Option (slices_stableCmpFunc_int_e0vf_impl_CheapTree_1_1__lsbs_J0.P ⊕ slices_stableCmpFunc_int_e0vf_impl_CheapTree_1_1__lsbs_O0.P)
  | ((n, blockSize, a, b, ()), (o0, o1, ())) => bif (decide (b ≤ n)) then (match slices_insertionSortCmpFunc_int_e0vvf_impl_CheapTree_1_1__lsbs (a, b, ()) (o0, o1, ()) with | some ((), (o, o2, ())) => some (.inl ((n, blockSize, b, (w64 (b + blockSize)), ()), (o, o2, ()))) | none => none) else (some (.inr ((n, blockSize, a, ()), (o0, o1, ()))))
abbrev slices_stableCmpFunc_int_e0vf_impl_CheapTree_1_1__lsbs_O1 : Out := .one (.ex 4) slices_stableCmpFunc_int_e0vf_impl_CheapTree_1_1__lsbs_J1
noncomputable def slices_stableCmpFunc_int_e0vf_impl_CheapTree_1_1__lsbs_B1 : slices_stableCmpFunc_int_e0vf_impl_CheapTree_1_1__lsbs_J0.P → Option (slices_stableCmpFunc_int_e0vf_impl_CheapTree_1_1__lsbs_J0.P ⊕ slices_stableCmpFunc_int_e0vf_impl_CheapTree_1_1__lsbs_O1.P)
  | ((n, blockSize, a, b, ()), (o0, o1, ())) => bif (decide (b ≤ n)) then (match slices_symMergeCmpFunc_int_e0vvvf_impl_CheapTree_1_1__lsbs (a, (w64 (a + blockSize)), b, ()) (o0, o1, ()) with | some ((), (o, o2, ())) => some (.inl ((n, blockSize, b, (w64 (b + (w64 ((2 : Int) * blockSize)))), ()), (o, o2, ()))) | none => none) else (some (.inr ((n, blockSize, a, ()), (o0, o1, ()))))
abbrev slices_stableCmpFunc_int_e0vf_impl_CheapTree_1_1__lsbs_O2 : Out := .one (.ex 2) slices_stableCmpFunc_int_e0vf_impl_CheapTree_1_1__lsbs_J3
noncomputable def slices_stableCmpFunc_int_e0vf_impl_CheapTree_1_1__lsbs_B2 : slices_stableCmpFunc_int_e0vf_impl_CheapTree_1_1__lsbs_J2.P → Option (slices_stableCmpFunc_int_e0vf_impl_CheapTree_1_1__lsbs_J2.P ⊕ slices_stableCmpFunc_int_e0vf_impl_CheapTree_1_1__lsbs_O2.P)
  | ((n, blockSize, ()), (o0, o1, ())) => bif (decide (blockSize < n)) then (match loopO slices_stableCmpFunc_int_e0vf_impl_CheapTree_1_1__lsbs_B1 ((n, blockSize, (0 : Int), (w64 ((2 : Int) * blockSize)), ()), (o0, o1, ())) with | some ((n2, blockSize2, a, ()), (o0_2, o1_2, ())) => (bif (decide ((w64 (a + blockSize2)) < n2)) then (match slices_symMergeCmpFunc_int_e0vvvf_impl_CheapTree_1_1__lsbs (a, (w64 (a + blockSize2)), n2, ()) (o0_2, o1_2, ()) with | some ((), (o, o2, ())) => some (.inl ((n2, (w64 (blockSize2 * (2 : Int))), ()), (o, o2, ()))) | none => none) else (some (.inl ((n2, (w64 (blockSize2 * (2 : Int))), ()), (o0_2, o1_2, ()))))) | none => none) else (some (.inr ((), (o0, o1, ()))))
noncomputable def slices_stableCmpFunc_int_e0vf_impl_CheapTree_1_1__lsbs : argP slices_stableCmpFunc_int_e0vf_impl_CheapTree_1_1__lsbs_a → obP (extObs 0 slices_stableCmpFunc_int_e0vf_impl_CheapTree_1_1__lsbs_o) → Option slices_stableCmpFunc_int_e0vf_impl_CheapTree_1_1__lsbs_E.P
  | (n, ()), (o0, o1, ()) => match loopO slices_stableCmpFunc_int_e0vf_impl_CheapTree_1_1__lsbs_B0 ((n, (20 : Int), (0 : Int), (20 : Int), ()), (o0, o1, ())) with | some ((n2, blockSize, a, ()), (o0_2, o1_2, ())) => (match slices_insertionSortCmpFunc_int_e0vvf_impl_CheapTree_1_1__lsbs (a, n2, ()) (o0_2, o1_2, ()) with | some ((), (o, o2, ())) => (match loopO slices_stableCmpFunc_int_e0vf_impl_CheapTree_1_1__lsbs_B2 ((n2, blockSize, ()), (o, o2, ())) with | some ((), (o0_3, o1_3, ())) => some ((), (o0_3, o1_3, ())) | none => none) | none => none) | none => none
noncomputable def slices_stableCmpFunc_int_e0vf_impl_CheapTree_1_1__lsbs_x : Cx := ⟨tab, slices_symMergeCmpFunc_int_e0vvvf_impl_CheapTree_1_1__lsbs_e, fun f n => bif Nat.beq f 158 && Nat.beq n 0 then 1 else bif Nat.beq f 159 && Nat.beq n 0 then 1 else 0, fun _ => false, [(18, 0), (18, 1), (18, 2), (18, 3), (27, 0), (27, 1), (27, 2), (27, 3), (43, 0), (43, 1), (43, 2), (43, 3), (60, 0), (60, 1), (60, 2), (60, 3)], []⟩
noncomputable def c140 : Code := bodyOf Try.f140
noncomputable def slices_stableCmpFunc_int_e0vf_impl_CheapTree_1_1__lsbs_A : Ann := .seq .nil (.seq .nil (.seq (.loop slices_stableCmpFunc_int_e0vf_impl_CheapTree_1_1__lsbs_J0 slices_stableCmpFunc_int_e0vf_impl_CheapTree_1_1__lsbs_O0 slices_stableCmpFunc_int_e0vf_impl_CheapTree_1_1__lsbs_B0 .nil) (.seq .nil (.loop slices_stableCmpFunc_int_e0vf_impl_CheapTree_1_1__lsbs_J2 slices_stableCmpFunc_int_e0vf_impl_CheapTree_1_1__lsbs_O2 slices_stableCmpFunc_int_e0vf_impl_CheapTree_1_1__lsbs_B2 (.seq .nil (.seq .nil (.seq (.loop slices_stableCmpFunc_int_e0vf_impl_CheapTree_1_1__lsbs_J0 slices_stableCmpFunc_int_e0vf_impl_CheapTree_1_1__lsbs_O1 slices_stableCmpFunc_int_e0vf_impl_CheapTree_1_1__lsbs_B1 .nil) .nil)))))))
theorem slices_stableCmpFunc_int_e0vf_impl_CheapTree_1_1__lsbs_r0 (p : slices_stableCmpFunc_int_e0vf_impl_CheapTree_1_1__lsbs_J0.P) : run slices_stableCmpFunc_int_e0vf_impl_CheapTree_1_1__lsbs_x (subc [1, 1, 0, 0, 0] c140) .nil (slices_stableCmpFunc_int_e0vf_impl_CheapTree_1_1__lsbs_J0.S p) (leaf slices_stableCmpFunc_int_e0vf_impl_CheapTree_1_1__lsbs_J0 slices_stableCmpFunc_int_e0vf_impl_CheapTree_1_1__lsbs_O0) = slices_stableCmpFunc_int_e0vf_impl_CheapTree_1_1__lsbs_B0 p := by kernel_rfl
theorem slices_stableCmpFunc_int_e0vf_impl_CheapTree_1_1__lsbs_r1 (p : slices_stableCmpFunc_int_e0vf_impl_CheapTree_1_1__lsbs_J2.P) : run slices_stableCmpFunc_int_e0vf_impl_CheapTree_1_1__lsbs_x (subc [1, 1, 1, 1, 0, 0] c140) (.seq .nil (.seq .nil (.seq (.loop slices_stableCmpFunc_int_e0vf_impl_CheapTree_1_1__lsbs_J0 slices_stableCmpFunc_int_e0vf_impl_CheapTree_1_1__lsbs_O1 slices_stableCmpFunc_int_e0vf_impl_CheapTree_1_1__lsbs_B1 .nil) .nil))) (slices_stableCmpFunc_int_e0vf_impl_CheapTree_1_1__lsbs_J2.S p) (leaf slices_stableCmpFunc_int_e0vf_impl_CheapTree_1_1__lsbs_J2 slices_stableCmpFunc_int_e0vf_impl_CheapTree_1_1__lsbs_O2) = slices_stableCmpFunc_int_e0vf_impl_CheapTree_1_1__lsbs_B2 p := by kernel_rfl
theorem slices_stableCmpFunc_int_e0vf_impl_CheapTree_1_1__lsbs_r2 (p : slices_stableCmpFunc_int_e0vf_impl_CheapTree_1_1__lsbs_J0.P) : run slices_stableCmpFunc_int_e0vf_impl_CheapTree_1_1__lsbs_x (subc [1, 1, 1, 1, 0, 0, 1, 0, 1, 0, 0, 0] c140) .nil (slices_stableCmpFunc_int_e0vf_impl_CheapTree_1_1__lsbs_J0.S p) (leaf slices_stableCmpFunc_int_e0vf_impl_CheapTree_1_1__lsbs_J0 slices_stableCmpFunc_int_e0vf_impl_CheapTree_1_1__lsbs_O1) = slices_stableCmpFunc_int_e0vf_impl_CheapTree_1_1__lsbs_B1 p := by kernel_rfl
noncomputable def slices_stableCmpFunc_int_e0vf_impl_CheapTree_1_1__lsbs_D : Ve.Fn := ⟨140, slices_stableCmpFunc_int_e0vf_impl_CheapTree_1_1__lsbs_a, slices_stableCmpFunc_int_e0vf_impl_CheapTree_1_1__lsbs_o, slices_stableCmpFunc_int_e0vf_impl_CheapTree_1_1__lsbs_E, slices_stableCmpFunc_int_e0vf_impl_CheapTree_1_1__lsbs⟩
theorem slices_stableCmpFunc_int_e0vf_impl_CheapTree_1_1__lsbs_w : Walk Try.prog slices_stableCmpFunc_int_e0vf_impl_CheapTree_1_1__lsbs_x slices_stableCmpFunc_int_e0vf_impl_CheapTree_1_1__lsbs_D Try.f140 c140 63 slices_stableCmpFunc_int_e0vf_impl_CheapTree_1_1__lsbs_A :=
  ⟨⟨Try.func140, by kernel_rfl, by kernel_rfl, by kernel_rfl, by decide, by kernel_rfl, Nat.le_of_ble_eq_true (by kernel_rfl)⟩, by kernel_rfl, by kernel_rfl, by kernel_rfl, kcast (by kernel_rfl) (⟨slices_stableCmpFunc_int_e0vf_impl_CheapTree_1_1__lsbs_r0, slices_stableCmpFunc_int_e0vf_impl_CheapTree_1_1__lsbs_r1, slices_stableCmpFunc_int_e0vf_impl_CheapTree_1_1__lsbs_r2, trivial⟩ : (∀ p, run slices_stableCmpFunc_int_e0vf_impl_CheapTree_1_1__lsbs_x (subc [1, 1, 0, 0, 0] c140) .nil (slices_stableCmpFunc_int_e0vf_impl_CheapTree_1_1__lsbs_J0.S p) (leaf slices_stableCmpFunc_int_e0vf_impl_CheapTree_1_1__lsbs_J0 slices_stableCmpFunc_int_e0vf_impl_CheapTree_1_1__lsbs_O0) = slices_stableCmpFunc_int_e0vf_impl_CheapTree_1_1__lsbs_B0 p) ∧ (∀ p, run slices_stableCmpFunc_int_e0vf_impl_CheapTree_1_1__lsbs_x (subc [1, 1, 1, 1, 0, 0] c140) (.seq .nil (.seq .nil (.seq (.loop slices_stableCmpFunc_int_e0vf_impl_CheapTree_1_1__lsbs_J0 slices_stableCmpFunc_int_e0vf_impl_CheapTree_1_1__lsbs_O1 slices_stableCmpFunc_int_e0vf_impl_CheapTree_1_1__lsbs_B1 .nil) .nil))) (slices_stableCmpFunc_int_e0vf_impl_CheapTree_1_1__lsbs_J2.S p) (leaf slices_stableCmpFunc_int_e0vf_impl_CheapTree_1_1__lsbs_J2 slices_stableCmpFunc_int_e0vf_impl_CheapTree_1_1__lsbs_O2) = slices_stableCmpFunc_int_e0vf_impl_CheapTree_1_1__lsbs_B2 p) ∧ (∀ p, run slices_stableCmpFunc_int_e0vf_impl_CheapTree_1_1__lsbs_x (subc [1, 1, 1, 1, 0, 0, 1, 0, 1, 0, 0, 0] c140) .nil (slices_stableCmpFunc_int_e0vf_impl_CheapTree_1_1__lsbs_J0.S p) (leaf slices_stableCmpFunc_int_e0vf_impl_CheapTree_1_1__lsbs_J0 slices_stableCmpFunc_int_e0vf_impl_CheapTree_1_1__lsbs_O1) = slices_stableCmpFunc_int_e0vf_impl_CheapTree_1_1__lsbs_B1 p) ∧ True), by kernel_rfl, fun x y => by kernel_rfl⟩
theorem slices_stableCmpFunc_int_e0vf_impl_CheapTree_1_1__lsbs_s : slices_stableCmpFunc_int_e0vf_impl_CheapTree_1_1__lsbs_D.Says Try.prog := slices_stableCmpFunc_int_e0vf_impl_CheapTree_1_1__lsbs_w.says follows tabOk slices_symMergeCmpFunc_int_e0vvvf_impl_CheapTree_1_1__lsbs_e_ok
noncomputable def slices_stableCmpFunc_int_e0vf_impl_CheapTree_1_1__lsbs_e : Env := more slices_symMergeCmpFunc_int_e0vvvf_impl_CheapTree_1_1__lsbs_e slices_stableCmpFunc_int_e0vf_impl_CheapTree_1_1__lsbs_D
theorem slices_stableCmpFunc_int_e0vf_impl_CheapTree_1_1__lsbs_e_ok : EnvOk Try.prog slices_stableCmpFunc_int_e0vf_impl_CheapTree_1_1__lsbs_e := more_ok slices_symMergeCmpFunc_int_e0vvvf_impl_CheapTree_1_1__lsbs_e_ok slices_stableCmpFunc_int_e0vf_impl_CheapTree_1_1__lsbs_s
/-! slices.SortStableFunc[[]int,int] -/
abbrev slices_SortStableFunc_int_int_e0f_impl_CheapTree_1_1__lsbs_E : Ve.End := ⟨[], [.vec .shr I, .box .shr (.list I)]⟩
abbrev slices_SortStableFunc_int_int_e0f_impl_CheapTree_1_1__lsbs_a : List ASh := [.ext 0, .fn 93 [1]]
abbrev slices_SortStableFunc_int_int_e0f_impl_CheapTree_1_1__lsbs_o : List OSh := [.vec .shr I, .box .shr (.list I)]
noncomputable def slices_SortStableFunc_int_int_e0f_impl_CheapTree_1_1__lsbs : argP slices_SortStableFunc_int_int_e0f_impl_CheapTree_1_1__lsbs_a → obP (extObs 0 slices_SortStableFunc_int_int_e0f_impl_CheapTree_1_1__lsbs_o) → Option slices_SortStableFunc_int_int_e0f_impl_CheapTree_1_1__lsbs_E.P
  | (), (o0, o1, ()) => match slices_stableCmpFunc_int_e0vf_impl_CheapTree_1_1__lsbs ((List.length o0 : Int), ()) (o0, o1, ()) with | some ((), (o, o2, ())) => some ((), (o, o2, ())) | none => none
noncomputable def slices_SortStableFunc_int_int_e0f_impl_CheapTree_1_1__lsbs_x : Cx := ⟨tab, slices_stableCmpFunc_int_e0vf_impl_CheapTree_1_1__lsbs_e, fun f n => bif Nat.beq f 140 && Nat.beq n 0 then 1 else 0, fun _ => false, [(8, 0), (8, 1), (8, 2), (8, 3)], []⟩
noncomputable def c92 : Code := bodyOf Try.f92
noncomputable def slices_SortStableFunc_int_int_e0f_impl_CheapTree_1_1__lsbs_A : Ann := .nil
noncomputable def slices_SortStableFunc_int_int_e0f_impl_CheapTree_1_1__lsbs_D : Ve.Fn := ⟨92, slices_SortStableFunc_int_int_e0f_impl_CheapTree_1_1__lsbs_a, slices_SortStableFunc_int_int_e0f_impl_CheapTree_1_1__lsbs_o, slices_SortStableFunc_int_int_e0f_impl_CheapTree_1_1__lsbs_E, slices_SortStableFunc_int_int_e0f_impl_CheapTree_1_1__lsbs⟩
theorem slices_SortStableFunc_int_int_e0f_impl_CheapTree_1_1__lsbs_w : Walk Try.prog slices_SortStableFunc_int_int_e0f_impl_CheapTree_1_1__lsbs_x slices_SortStableFunc_int_int_e0f_impl_CheapTree_1_1__lsbs_D Try.f92 c92 9 slices_SortStableFunc_int_int_e0f_impl_CheapTree_1_1__lsbs_A :=
  ⟨⟨Try.func92, by kernel_rfl, by kernel_rfl, by kernel_rfl, by decide, by kernel_rfl, Nat.le_of_ble_eq_true (by kernel_rfl)⟩, by kernel_rfl, by kernel_rfl, by kernel_rfl, kcast (by kernel_rfl) trivial, by kernel_rfl, fun x y => by kernel_rfl⟩
theorem slices_SortStableFunc_int_int_e0f_impl_CheapTree_1_1__lsbs_s : slices_SortStableFunc_int_int_e0f_impl_CheapTree_1_1__lsbs_D.Says Try.prog := slices_SortStableFunc_int_int_e0f_impl_CheapTree_1_1__lsbs_w.says follows tabOk slices_stableCmpFunc_int_e0vf_impl_CheapTree_1_1__lsbs_e_ok
noncomputable def slices_SortStableFunc_int_int_e0f_impl_CheapTree_1_1__lsbs_e : Env := more slices_stableCmpFunc_int_e0vf_impl_CheapTree_1_1__lsbs_e slices_SortStableFunc_int_int_e0f_impl_CheapTree_1_1__lsbs_D
theorem slices_SortStableFunc_int_int_e0f_impl_CheapTree_1_1__lsbs_e_ok : EnvOk Try.prog slices_SortStableFunc_int_int_e0f_impl_CheapTree_1_1__lsbs_e := more_ok slices_stableCmpFunc_int_e0vf_impl_CheapTree_1_1__lsbs_e_ok slices_SortStableFunc_int_int_e0f_impl_CheapTree_1_1__lsbs_s
/-! loop.example/g01128/impl.newJoiner -/
abbrev impl_newJoiner_J0 : Tpl := ⟨[(3, .own .shr I), (6, .val I), (7, .val I)], [], []⟩
abbrev impl_newJoiner_J1 : Tpl := ⟨[(3, .own .shr I)], [], []⟩
abbrev impl_newJoiner_E : Ve.End := ⟨[⟨2, (.own .shr), (.list I), none⟩], []⟩
abbrev impl_newJoiner_a : List ASh := [.val I]
abbrev impl_newJoiner_o : List OSh := []
abbrev impl_newJoiner_O0 : Out := .one (.ex 0) impl_newJoiner_J1
noncomputable def impl_newJoiner_B0 : impl_newJoiner_J0.P → Option (impl_newJoiner_J0.P ⊕ impl_newJoiner_O0.P)
  | ((out, t6, t7, ()), ()) => bif (decide (t7 < t6)) then (guardB (decide ((List.length out + List.length [t7]) * 8 ≤ 70368744177664)) (some (.inl (((out ++ [t7]), t6, (w64 (t7 + (1 : Int))), ()), ())))) else (some (.inr ((out, ()), ())))
noncomputable def impl_newJoiner : argP impl_newJoiner_a → obP (extObs 0 impl_newJoiner_o) → Option impl_newJoiner_E.P
  | (size_, ()), () => match loopO impl_newJoiner_B0 ((([] : (List Int)), size_, (0 : Int), ()), ()) with | some ((out, ()), ()) => some ((out, ()), ()) | none => none
noncomputable def impl_newJoiner_x : Cx := ⟨tab, slices_SortStableFunc_int_int_e0f_impl_CheapTree_1_1__lsbs_e, fun _ _ => 0, fun _ => false, [(12, 0)], []⟩
noncomputable def c95 : Code := bodyOf Try.f95
noncomputable def impl_newJoiner_A : Ann := .seq .nil (.seq .nil (.seq (.seq .nil (.loop impl_newJoiner_J0 impl_newJoiner_O0 impl_newJoiner_B0 .nil)) .nil))
theorem impl_newJoiner_r0 (p : impl_newJoiner_J0.P) : run impl_newJoiner_x (subc [1, 1, 0, 1, 0, 0] c95) .nil (impl_newJoiner_J0.S p) (leaf impl_newJoiner_J0 impl_newJoiner_O0) = impl_newJoiner_B0 p := by kernel_rfl
noncomputable def impl_newJoiner_D : Ve.Fn := ⟨95, impl_newJoiner_a, impl_newJoiner_o, impl_newJoiner_E, impl_newJoiner⟩
theorem impl_newJoiner_w : Walk Try.prog impl_newJoiner_x impl_newJoiner_D Try.f95 c95 16 impl_newJoiner_A :=
  ⟨⟨Try.func95, by kernel_rfl, by kernel_rfl, by kernel_rfl, by decide, by kernel_rfl, Nat.le_of_ble_eq_true (by kernel_rfl)⟩, by kernel_rfl, by kernel_rfl, by kernel_rfl, kcast (by kernel_rfl) (⟨impl_newJoiner_r0, trivial⟩ : (∀ p, run impl_newJoiner_x (subc [1, 1, 0, 1, 0, 0] c95) .nil (impl_newJoiner_J0.S p) (leaf impl_newJoiner_J0 impl_newJoiner_O0) = impl_newJoiner_B0 p) ∧ True), by kernel_rfl, fun x y => by kernel_rfl⟩
theorem impl_newJoiner_s : impl_newJoiner_D.Says Try.prog := impl_newJoiner_w.says follows tabOk slices_SortStableFunc_int_int_e0f_impl_CheapTree_1_1__lsbs_e_ok
noncomputable def impl_newJoiner_e : Env := more slices_SortStableFunc_int_int_e0f_impl_CheapTree_1_1__lsbs_e impl_newJoiner_D
theorem impl_newJoiner_e_ok : EnvOk Try.prog impl_newJoiner_e := more_ok slices_SortStableFunc_int_int_e0f_impl_CheapTree_1_1__lsbs_e_ok impl_newJoiner_s
/-! (loop.example/g01128/impl.joiner).root -/
abbrev impl_joiner_root_J0 : Tpl := ⟨[(0, .val (.list I)), (1, .val I)], [], []⟩
abbrev impl_joiner_root_J1 : Tpl := ⟨[(1, .val I)], [], []⟩
abbrev impl_joiner_root_E : Ve.End := ⟨[⟨4, .shr, I, none⟩], []⟩
abbrev impl_joiner_root_a : List ASh := [.val (.list I), .val I]
abbrev impl_joiner_root_o : List OSh := []
abbrev impl_joiner_root_O0 : Out := .one (.ex 0) impl_joiner_root_J1
noncomputable def impl_joiner_root_B0 : impl_joiner_root_J0.P → Option (impl_joiner_root_J0.P ⊕ impl_joiner_root_O0.P)
  | ((j, x, ()), ()) => guardB (inb x (List.length j)) (bif ((List.getD j (Int.toNat x) (0 : Int)) != x) then (guardB (inb x (List.length j)) (some (.inl ((j, (List.getD j (Int.toNat x) (0 : Int)), ()), ())))) else (some (.inr ((x, ()), ()))))
noncomputable def impl_joiner_root : argP impl_joiner_root_a → obP (extObs 0 impl_joiner_root_o) → Option impl_joiner_root_E.P
  | (j, x, ()), () => match loopO impl_joiner_root_B0 ((j, x, ()), ()) with | some ((x2, ()), ()) => some ((x2, ()), ()) | none => none
noncomputable def impl_joiner_root_x : Cx := ⟨tab, impl_newJoiner_e, fun _ _ => 0, fun _ => false, [], []⟩
noncomputable def c142 : Code := bodyOf Try.f142
noncomputable def impl_joiner_root_A : Ann := .seq .nil (.seq (.loop impl_joiner_root_J0 impl_joiner_root_O0 impl_joiner_root_B0 .nil) .nil)
theorem impl_joiner_root_r0 (p : impl_joiner_root_J0.P) : run impl_joiner_root_x (subc [1, 0, 0, 0] c142) .nil (impl_joiner_root_J0.S p) (leaf impl_joiner_root_J0 impl_joiner_root_O0) = impl_joiner_root_B0 p := by kernel_rfl
noncomputable def impl_joiner_root_D : Ve.Fn := ⟨142, impl_joiner_root_a, impl_joiner_root_o, impl_joiner_root_E, impl_joiner_root⟩
theorem impl_joiner_root_w : Walk Try.prog impl_joiner_root_x impl_joiner_root_D Try.f142 c142 16 impl_joiner_root_A :=
  ⟨⟨Try.func142, by kernel_rfl, by kernel_rfl, by kernel_rfl, by decide, by kernel_rfl, Nat.le_of_ble_eq_true (by kernel_rfl)⟩, by kernel_rfl, by kernel_rfl, by kernel_rfl, kcast (by kernel_rfl) (⟨impl_joiner_root_r0, trivial⟩ : (∀ p, run impl_joiner_root_x (subc [1, 0, 0, 0] c142) .nil (impl_joiner_root_J0.S p) (leaf impl_joiner_root_J0 impl_joiner_root_O0) = impl_joiner_root_B0 p) ∧ True), by kernel_rfl, fun x y => by kernel_rfl⟩
theorem impl_joiner_root_s : impl_joiner_root_D.Says Try.prog := impl_joiner_root_w.says follows tabOk impl_newJoiner_e_ok
noncomputable def impl_joiner_root_e : Env := more impl_newJoiner_e impl_joiner_root_D
theorem impl_joiner_root_e_ok : EnvOk Try.prog impl_joiner_root_e := more_ok impl_newJoiner_e_ok impl_joiner_root_s
/-! (loop.example/g01128/impl.joiner).join -/
abbrev impl_joiner_join_e0v_ls_E : Ve.End := ⟨[⟨4, .shr, .bool, none⟩], [.vec .shr I]⟩
abbrev impl_joiner_join_e0v_ls_a : List ASh := [.ext 0, .val (.prod I I)]
abbrev impl_joiner_join_e0v_ls_o : List OSh := [.vec .shr I]
noncomputable def impl_joiner_join_e0v_ls : argP impl_joiner_join_e0v_ls_a → obP (extObs 0 impl_joiner_join_e0v_ls_o) → Option impl_joiner_join_e0v_ls_E.P
  | (e, ()), (o0, ()) => match impl_joiner_root (o0, e.1, ()) () with | some ((r, ()), ()) => (match impl_joiner_root (o0, e.2, ()) () with | some ((r2, ()), ()) => guardB (inb r (List.length o0)) (some (((r != r2), ()), ((List.set o0 (Int.toNat r) r2), ()))) | none => none) | none => none
noncomputable def impl_joiner_join_e0v_ls_x : Cx := ⟨tab, impl_joiner_root_e, fun _ _ => 0, fun _ => false, [(10, 0), (10, 1), (10, 2), (10, 3), (14, 0), (14, 1), (14, 2), (14, 3)], [(3, 0)]⟩
noncomputable def c96 : Code := bodyOf Try.f96
noncomputable def impl_joiner_join_e0v_ls_A : Ann := .seq .nil (.seq (.draw [(0, .flo), (1, .flo), (2, .flo), (4, .flo), (5, .flo), (6, .flo), (3, .sole), (7, .sole), (8, .flo), (9, .flo)]) .nil)
noncomputable def impl_joiner_join_e0v_ls_D : Ve.Fn := ⟨96, impl_joiner_join_e0v_ls_a, impl_joiner_join_e0v_ls_o, impl_joiner_join_e0v_ls_E, impl_joiner_join_e0v_ls⟩
theorem impl_joiner_join_e0v_ls_w : Walk Try.prog impl_joiner_join_e0v_ls_x impl_joiner_join_e0v_ls_D Try.f96 c96 22 impl_joiner_join_e0v_ls_A :=
  ⟨⟨Try.func96, by kernel_rfl, by kernel_rfl, by kernel_rfl, by decide, by kernel_rfl, Nat.le_of_ble_eq_true (by kernel_rfl)⟩, by kernel_rfl, by kernel_rfl, by kernel_rfl, kcast (by kernel_rfl) trivial, by kernel_rfl, fun x y => by kernel_rfl⟩
theorem impl_joiner_join_e0v_ls_s : impl_joiner_join_e0v_ls_D.Says Try.prog := impl_joiner_join_e0v_ls_w.says follows tabOk impl_joiner_root_e_ok
noncomputable def impl_joiner_join_e0v_ls_e : Env := more impl_joiner_root_e impl_joiner_join_e0v_ls_D
theorem impl_joiner_join_e0v_ls_e_ok : EnvOk Try.prog impl_joiner_join_e0v_ls_e := more_ok impl_joiner_root_e_ok impl_joiner_join_e0v_ls_s
noncomputable def slices_Sort_int_int_e : Env := more impl_joiner_join_e0v_ls_e (sortFn 97)
theorem slices_Sort_int_int_e_ok : EnvOk Try.prog slices_Sort_int_int_e := more_ok impl_joiner_join_e0v_ls_e_ok sort_s
noncomputable abbrev slices_Sort_int_int := (sortFn 97).F
/-! loop.example/g01128/impl.CheapTree -/
abbrev impl_CheapTree_J0 : Tpl := ⟨[(2, .cst (.prod (.list (.list I)) (.list (.prod I I)))), (6, .own .shr I), (7, .own .shr I), (8, .own .shr I), (27, .same (6, 0) []), (28, .val I), (29, .val I)], [], []⟩
abbrev impl_CheapTree_J1 : Tpl := ⟨[(8, .own .shr I)], [], []⟩
abbrev impl_CheapTree_E : Ve.End := ⟨[⟨4, (.own .shr), (.list I), none⟩, ⟨5, .shr, .bool, none⟩], []⟩
abbrev impl_CheapTree_a : List ASh := [.val (.prod (.list (.list I)) (.list (.prod I I))), .val (.list I)]
abbrev impl_CheapTree_o : List OSh := []
abbrev impl_CheapTree_O0 : Out := .one (.ex 0) impl_CheapTree_J1
noncomputable def impl_CheapTree_B0 : impl_CheapTree_J0.P → Option (impl_CheapTree_J0.P ⊕ impl_CheapTree_O0.P)
  | ((x, order, j, out, t28, t29, ()), ()) => bif (decide (t29 < t28)) then (guardB (inb t29 (List.length order)) (guardB (inb (List.getD order (Int.toNat t29) (0 : Int)) (List.length x.2)) (match impl_joiner_join_e0v_ls ((List.getD x.2 (Int.toNat (List.getD order (Int.toNat t29) (0 : Int))) ((0 : Int), (0 : Int))), ()) (j, ()) with | some ((r, ()), (o, ())) => (bif r then (guardB (decide ((List.length out + List.length [(List.getD order (Int.toNat t29) (0 : Int))]) * 8 ≤ 70368744177664)) (some (.inl ((x, order, o, (out ++ [(List.getD order (Int.toNat t29) (0 : Int))]), t28, (w64 (t29 + (1 : Int))), ()), ())))) else (some (.inl ((x, order, o, out, t28, (w64 (t29 + (1 : Int))), ()), ())))) | none => none))) else (some (.inr ((out, ()), ())))
noncomputable def impl_CheapTree : argP impl_CheapTree_a → obP (extObs 0 impl_CheapTree_o) → Option impl_CheapTree_E.P
  | (x, weights, ()), () => match impl_isWeighed (x, weights, ()) () with | some ((r, ()), ()) => (bif (!r) then (some ((([] : (List Int)), false, ()), ())) else (match impl_home ((List.length x.2 : Int), ()) () with | some ((r2, ()), ()) => (match slices_SortStableFunc_int_int_e0f_impl_CheapTree_1_1__lsbs () (r2, weights, ()) with | some ((), (o, o2, ())) => (match impl_newJoiner ((List.length x.1 : Int), ()) () with | some ((r3, ()), ()) => (match loopO impl_CheapTree_B0 ((x, o, r3, ([] : (List Int)), (List.length o : Int), (0 : Int), ()), ()) with | some ((out, ()), ()) => (match slices_Sort_int_int () (out, ()) with | some ((), (o3, ())) => some ((o3, true, ()), ()) | none => none) | none => none) | none => none) | none => none) | none => none)) | none => none
noncomputable def impl_CheapTree_x : Cx := ⟨tab, slices_Sort_int_int_e, fun f n => bif Nat.beq f 92 && Nat.beq n 0 then 1 else bif Nat.beq f 96 && Nat.beq n 0 then 1 else bif Nat.beq f 97 && Nat.beq n 0 then 1 else 0, fun _ => false, [(13, 0), (13, 1), (13, 2), (13, 3), (21, 0), (21, 1), (21, 2), (21, 3), (39, 0), (39, 1), (39, 2), (39, 3), (42, 0), (46, 0), (46, 1), (46, 2), (46, 3)], [(2, 0)]⟩
noncomputable def c43 : Code := bodyOf Try.f43
noncomputable def impl_CheapTree_A : Ann := .seq .nil (.seq .nil (.seq .nil (.seq .nil (.seq .nil (.seq (.seq .nil (.loop impl_CheapTree_J0 impl_CheapTree_O0 impl_CheapTree_B0 .nil)) .nil)))))
theorem impl_CheapTree_r0 (p : impl_CheapTree_J0.P) : run impl_CheapTree_x (subc [1, 1, 1, 1, 1, 0, 1, 0, 0] c43) .nil (impl_CheapTree_J0.S p) (leaf impl_CheapTree_J0 impl_CheapTree_O0) = impl_CheapTree_B0 p := by kernel_rfl
noncomputable def impl_CheapTree_D : Ve.Fn := ⟨43, impl_CheapTree_a, impl_CheapTree_o, impl_CheapTree_E, impl_CheapTree⟩
theorem impl_CheapTree_w : Walk Try.prog impl_CheapTree_x impl_CheapTree_D Try.f43 c43 48 impl_CheapTree_A :=
  ⟨⟨Try.func43, by kernel_rfl, by kernel_rfl, by kernel_rfl, by decide, by kernel_rfl, Nat.le_of_ble_eq_true (by kernel_rfl)⟩, by kernel_rfl, by kernel_rfl, by kernel_rfl, kcast (by kernel_rfl) (⟨impl_CheapTree_r0, trivial⟩ : (∀ p, run impl_CheapTree_x (subc [1, 1, 1, 1, 1, 0, 1, 0, 0] c43) .nil (impl_CheapTree_J0.S p) (leaf impl_CheapTree_J0 impl_CheapTree_O0) = impl_CheapTree_B0 p) ∧ True), by kernel_rfl, fun x y => by kernel_rfl⟩
theorem impl_CheapTree_s : impl_CheapTree_D.Says Try.prog := impl_CheapTree_w.says follows tabOk slices_Sort_int_int_e_ok
noncomputable def impl_CheapTree_e : Env := more slices_Sort_int_int_e impl_CheapTree_D
theorem impl_CheapTree_e_ok : EnvOk Try.prog impl_CheapTree_e := more_ok slices_Sort_int_int_e_ok impl_CheapTree_s
/-! loop.example/g01128/laws.eqIntS -/
abbrev laws_eqIntS_J0 : Tpl := ⟨[(0, .val (.list I)), (1, .val (.list I)), (5, .val I)], [], []⟩
abbrev laws_eqIntS_J1 : Tpl := ⟨[(4, .val .bool)], [], []⟩
abbrev laws_eqIntS_J2 : Tpl := ⟨[], [], []⟩
abbrev laws_eqIntS_E : Ve.End := ⟨[⟨4, .shr, .bool, none⟩], []⟩
abbrev laws_eqIntS_a : List ASh := [.val (.list I), .val (.list I)]
abbrev laws_eqIntS_o : List OSh := []
abbrev laws_eqIntS_O0 : Out := .or .ret laws_eqIntS_J1 (.one (.ex 0) laws_eqIntS_J2)
noncomputable def laws_eqIntS_B0 : laws_eqIntS_J0.P → Option (laws_eqIntS_J0.P ⊕ laws_eqIntS_O0.P)
  | ((a, b, i, ()), ()) => bif (decide (i < (List.length a : Int))) then (guardB (inb i (List.length a)) (guardB (inb i (List.length b)) (bif ((List.getD a (Int.toNat i) (0 : Int)) != (List.getD b (Int.toNat i) (0 : Int))) then (some (.inr (.inl ((false, ()), ())))) else (some (.inl ((a, b, (w64 (i + (1 : Int))), ()), ())))))) else (some (.inr (.inr ((), ()))))
noncomputable def laws_eqIntS : argP laws_eqIntS_a → obP (extObs 0 laws_eqIntS_o) → Option laws_eqIntS_E.P
  | (a, b, ()), () => bif ((List.length a : Int) != (List.length b : Int)) then (some ((false, ()), ())) else (match loopO laws_eqIntS_B0 ((a, b, (0 : Int), ()), ()) with | some (.inl ((t4, ()), ())) => some ((t4, ()), ()) | some (.inr ((), ())) => some ((true, ()), ()) | none => none)
noncomputable def laws_eqIntS_x : Cx := ⟨tab, impl_CheapTree_e, fun _ _ => 0, fun _ => false, [], []⟩
noncomputable def c21 : Code := bodyOf Try.f21
noncomputable def laws_eqIntS_A : Ann := .seq .nil (.seq .nil (.seq (.seq .nil (.loop laws_eqIntS_J0 laws_eqIntS_O0 laws_eqIntS_B0 (.seq .nil (.seq (.seq (.draw [(0, .flo), (1, .flo), (2, .flo), (3, .flo), (4, .flo), (5, .flo), (6, .flo), (7, .flo), (8, .flo)]) .nil) .nil)))) .nil))
theorem laws_eqIntS_r0 (p : laws_eqIntS_J0.P) : run laws_eqIntS_x (subc [1, 1, 0, 1, 0, 0] c21) (.seq .nil (.seq (.seq (.draw [(0, .flo), (1, .flo), (2, .flo), (3, .flo), (4, .flo), (5, .flo), (6, .flo), (7, .flo), (8, .flo)]) .nil) .nil)) (laws_eqIntS_J0.S p) (leaf laws_eqIntS_J0 laws_eqIntS_O0) = laws_eqIntS_B0 p := by kernel_rfl
noncomputable def laws_eqIntS_D : Ve.Fn := ⟨21, laws_eqIntS_a, laws_eqIntS_o, laws_eqIntS_E, laws_eqIntS⟩
theorem laws_eqIntS_w : Walk Try.prog laws_eqIntS_x laws_eqIntS_D Try.f21 c21 26 laws_eqIntS_A :=
  ⟨⟨Try.func21, by kernel_rfl, by kernel_rfl, by kernel_rfl, by decide, by kernel_rfl, Nat.le_of_ble_eq_true (by kernel_rfl)⟩, by kernel_rfl, by kernel_rfl, by kernel_rfl, kcast (by kernel_rfl) (⟨laws_eqIntS_r0, trivial⟩ : (∀ p, run laws_eqIntS_x (subc [1, 1, 0, 1, 0, 0] c21) (.seq .nil (.seq (.seq (.draw [(0, .flo), (1, .flo), (2, .flo), (3, .flo), (4, .flo), (5, .flo), (6, .flo), (7, .flo), (8, .flo)]) .nil) .nil)) (laws_eqIntS_J0.S p) (leaf laws_eqIntS_J0 laws_eqIntS_O0) = laws_eqIntS_B0 p) ∧ True), by kernel_rfl, fun x y => by kernel_rfl⟩
theorem laws_eqIntS_s : laws_eqIntS_D.Says Try.prog := laws_eqIntS_w.says follows tabOk impl_CheapTree_e_ok
noncomputable def laws_eqIntS_e : Env := more impl_CheapTree_e laws_eqIntS_D
theorem laws_eqIntS_e_ok : EnvOk Try.prog laws_eqIntS_e := more_ok impl_CheapTree_e_ok laws_eqIntS_s
/-! loop.example/g01128/laws.eqIntSS -/
abbrev laws_eqIntSS_J0 : Tpl := ⟨[(0, .val (.list (.list I))), (1, .val (.list (.list I))), (5, .val I)], [], []⟩
abbrev laws_eqIntSS_J1 : Tpl := ⟨[(4, .val .bool)], [], []⟩
abbrev laws_eqIntSS_J2 : Tpl := ⟨[], [], []⟩
abbrev laws_eqIntSS_E : Ve.End := ⟨[⟨4, .shr, .bool, none⟩], []⟩
abbrev laws_eqIntSS_a : List ASh := [.val (.list (.list I)), .val (.list (.list I))]
abbrev laws_eqIntSS_o : List OSh := []
abbrev laws_eqIntSS_O0 : Out := .or .ret laws_eqIntSS_J1 (.one (.ex 0) laws_eqIntSS_J2)
noncomputable def laws_eqIntSS_B0 : laws_eqIntSS_J0.P → Option (laws_eqIntSS_J0.P ⊕ laws_eqIntSS_O0.P)
  | ((a, b, i, ()), ()) => bif (decide (i < (List.length a : Int))) then (guardB (inb i (List.length a)) (guardB (inb i (List.length b)) (match laws_eqIntS ((List.getD a (Int.toNat i) ([] : (List Int))), (List.getD b (Int.toNat i) ([] : (List Int))), ()) () with | some ((r, ()), ()) => (bif (!r) then (some (.inr (.inl ((false, ()), ())))) else (some (.inl ((a, b, (w64 (i + (1 : Int))), ()), ())))) | none => none))) else (some (.inr (.inr ((), ()))))
noncomputable def laws_eqIntSS : argP laws_eqIntSS_a → obP (extObs 0 laws_eqIntSS_o) → Option laws_eqIntSS_E.P
  | (a, b, ()), () => bif ((List.length a : Int) != (List.length b : Int)) then (some ((false, ()), ())) else (match loopO laws_eqIntSS_B0 ((a, b, (0 : Int), ()), ()) with | some (.inl ((t4, ()), ())) => some ((t4, ()), ()) | some (.inr ((), ())) => some ((true, ()), ()) | none => none)
noncomputable def laws_eqIntSS_x : Cx := ⟨tab, laws_eqIntS_e, fun _ _ => 0, fun _ => false, [(25, 0), (25, 1), (25, 2), (25, 3)], []⟩
noncomputable def c26 : Code := bodyOf Try.f26
noncomputable def laws_eqIntSS_A : Ann := .seq .nil (.seq .nil (.seq (.seq .nil (.loop laws_eqIntSS_J0 laws_eqIntSS_O0 laws_eqIntSS_B0 (.seq .nil (.seq (.seq (.draw [(0, .flo), (1, .flo), (2, .flo), (3, .flo), (4, .flo), (5, .flo), (6, .flo), (7, .flo), (8, .sole), (9, .flo)]) .nil) .nil)))) .nil))
theorem laws_eqIntSS_r0 (p : laws_eqIntSS_J0.P) : run laws_eqIntSS_x (subc [1, 1, 0, 1, 0, 0] c26) (.seq .nil (.seq (.seq (.draw [(0, .flo), (1, .flo), (2, .flo), (3, .flo), (4, .flo), (5, .flo), (6, .flo), (7, .flo), (8, .sole), (9, .flo)]) .nil) .nil)) (laws_eqIntSS_J0.S p) (leaf laws_eqIntSS_J0 laws_eqIntSS_O0) = laws_eqIntSS_B0 p := by kernel_rfl
noncomputable def laws_eqIntSS_D : Ve.Fn := ⟨26, laws_eqIntSS_a, laws_eqIntSS_o, laws_eqIntSS_E, laws_eqIntSS⟩
theorem laws_eqIntSS_w : Walk Try.prog laws_eqIntSS_x laws_eqIntSS_D Try.f26 c26 27 laws_eqIntSS_A :=
  ⟨⟨Try.func26, by kernel_rfl, by kernel_rfl, by kernel_rfl, by decide, by kernel_rfl, Nat.le_of_ble_eq_true (by kernel_rfl)⟩, by kernel_rfl, by kernel_rfl, by kernel_rfl, kcast (by kernel_rfl) (⟨laws_eqIntSS_r0, trivial⟩ : (∀ p, run laws_eqIntSS_x (subc [1, 1, 0, 1, 0, 0] c26) (.seq .nil (.seq (.seq (.draw [(0, .flo), (1, .flo), (2, .flo), (3, .flo), (4, .flo), (5, .flo), (6, .flo), (7, .flo), (8, .sole), (9, .flo)]) .nil) .nil)) (laws_eqIntSS_J0.S p) (leaf laws_eqIntSS_J0 laws_eqIntSS_O0) = laws_eqIntSS_B0 p) ∧ True), by kernel_rfl, fun x y => by kernel_rfl⟩
theorem laws_eqIntSS_s : laws_eqIntSS_D.Says Try.prog := laws_eqIntSS_w.says follows tabOk laws_eqIntS_e_ok
noncomputable def laws_eqIntSS_e : Env := more laws_eqIntS_e laws_eqIntSS_D
theorem laws_eqIntSS_e_ok : EnvOk Try.prog laws_eqIntSS_e := more_ok laws_eqIntS_e_ok laws_eqIntSS_s
/-! loop.example/g01128/laws.eqIntA2 -/
abbrev laws_eqIntA2_J0 : Tpl := ⟨[(2, .cst (.prod I I)), (3, .cst (.prod I I)), (5, .val I)], [], []⟩
abbrev laws_eqIntA2_J1 : Tpl := ⟨[(4, .val .bool)], [], []⟩
abbrev laws_eqIntA2_J2 : Tpl := ⟨[], [], []⟩
abbrev laws_eqIntA2_E : Ve.End := ⟨[⟨4, .shr, .bool, none⟩], []⟩
abbrev laws_eqIntA2_a : List ASh := [.val (.prod I I), .val (.prod I I)]
abbrev laws_eqIntA2_o : List OSh := []
abbrev laws_eqIntA2_O0 : Out := .or .ret laws_eqIntA2_J1 (.one (.ex 0) laws_eqIntA2_J2)
noncomputable def laws_eqIntA2_B0 : laws_eqIntA2_J0.P → Option (laws_eqIntA2_J0.P ⊕ laws_eqIntA2_O0.P)
  | ((a, b, i, ()), ()) => bif (decide (i < (2 : Int))) then (guardB (decide (0 ≤ i) && decide (i < 2)) (guardB (decide (0 ≤ i) && decide (i < 2)) (bif ((bif Nat.beq (Int.toNat i) 0 then a.1 else a.2) != (bif Nat.beq (Int.toNat i) 0 then b.1 else b.2)) then (some (.inr (.inl ((false, ()), ())))) else (some (.inl ((a, b, (w64 (i + (1 : Int))), ()), ())))))) else (some (.inr (.inr ((), ()))))
noncomputable def laws_eqIntA2 : argP laws_eqIntA2_a → obP (extObs 0 laws_eqIntA2_o) → Option laws_eqIntA2_E.P
  | (a, b, ()), () => match loopO laws_eqIntA2_B0 ((a, b, (0 : Int), ()), ()) with | some (.inl ((t4, ()), ())) => some ((t4, ()), ()) | some (.inr ((), ())) => some ((true, ()), ()) | none => none
noncomputable def laws_eqIntA2_x : Cx := ⟨tab, laws_eqIntSS_e, fun _ _ => 0, fun _ => false, [], [(2, 0), (3, 0)]⟩
noncomputable def c124 : Code := bodyOf Try.f124
noncomputable def laws_eqIntA2_A : Ann := .seq .nil (.seq (.seq .nil (.loop laws_eqIntA2_J0 laws_eqIntA2_O0 laws_eqIntA2_B0 (.seq .nil (.seq (.seq (.draw [(0, .flo), (1, .flo), (2, .flo), (3, .flo), (4, .flo), (5, .flo), (6, .flo)]) .nil) .nil)))) .nil)
theorem laws_eqIntA2_r0 (p : laws_eqIntA2_J0.P) : run laws_eqIntA2_x (subc [1, 0, 1, 0, 0] c124) (.seq .nil (.seq (.seq (.draw [(0, .flo), (1, .flo), (2, .flo), (3, .flo), (4, .flo), (5, .flo), (6, .flo)]) .nil) .nil)) (laws_eqIntA2_J0.S p) (leaf laws_eqIntA2_J0 laws_eqIntA2_O0) = laws_eqIntA2_B0 p := by kernel_rfl
noncomputable def laws_eqIntA2_D : Ve.Fn := ⟨124, laws_eqIntA2_a, laws_eqIntA2_o, laws_eqIntA2_E, laws_eqIntA2⟩
theorem laws_eqIntA2_w : Walk Try.prog laws_eqIntA2_x laws_eqIntA2_D Try.f124 c124 17 laws_eqIntA2_A :=
  ⟨⟨Try.func124, by kernel_rfl, by kernel_rfl, by kernel_rfl, by decide, by kernel_rfl, Nat.le_of_ble_eq_true (by kernel_rfl)⟩, by kernel_rfl, by kernel_rfl, by kernel_rfl, kcast (by kernel_rfl) (⟨laws_eqIntA2_r0, trivial⟩ : (∀ p, run laws_eqIntA2_x (subc [1, 0, 1, 0, 0] c124) (.seq .nil (.seq (.seq (.draw [(0, .flo), (1, .flo), (2, .flo), (3, .flo), (4, .flo), (5, .flo), (6, .flo)]) .nil) .nil)) (laws_eqIntA2_J0.S p) (leaf laws_eqIntA2_J0 laws_eqIntA2_O0) = laws_eqIntA2_B0 p) ∧ True), by kernel_rfl, fun x y => by kernel_rfl⟩
theorem laws_eqIntA2_s : laws_eqIntA2_D.Says Try.prog := laws_eqIntA2_w.says follows tabOk laws_eqIntSS_e_ok
noncomputable def laws_eqIntA2_e : Env := more laws_eqIntSS_e laws_eqIntA2_D
theorem laws_eqIntA2_e_ok : EnvOk Try.prog laws_eqIntA2_e := more_ok laws_eqIntSS_e_ok laws_eqIntA2_s
/-! loop.example/g01128/laws.eqIntA2S -/
abbrev laws_eqIntA2S_J0 : Tpl := ⟨[(0, .val (.list (.prod I I))), (1, .val (.list (.prod I I))), (5, .val I)], [], []⟩
abbrev laws_eqIntA2S_J1 : Tpl := ⟨[(4, .val .bool)], [], []⟩
abbrev laws_eqIntA2S_J2 : Tpl := ⟨[], [], []⟩
abbrev laws_eqIntA2S_E : Ve.End := ⟨[⟨4, .shr, .bool, none⟩], []⟩
abbrev laws_eqIntA2S_a : List ASh := [.val (.list (.prod I I)), .val (.list (.prod I I))]
abbrev laws_eqIntA2S_o : List OSh := []
abbrev laws_eqIntA2S_O0 : Out := .or .ret laws_eqIntA2S_J1 (.one (.ex 0) laws_eqIntA2S_J2)
noncomputable def laws_eqIntA2S_B0 : laws_eqIntA2S_J0.P → Option (laws_eqIntA2S_J0.P ⊕ laws_eqIntA2S_O0.P)
  | ((a, b, i, ()), ()) => bif (decide (i < (List.length a : Int))) then (guardB (inb i (List.length a)) (guardB (inb i (List.length b)) (match laws_eqIntA2 ((List.getD a (Int.toNat i) ((0 : Int), (0 : Int))), (List.getD b (Int.toNat i) ((0 : Int), (0 : Int))), ()) () with | some ((r, ()), ()) => (bif (!r) then (some (.inr (.inl ((false, ()), ())))) else (some (.inl ((a, b, (w64 (i + (1 : Int))), ()), ())))) | none => none))) else (some (.inr (.inr ((), ()))))
noncomputable def laws_eqIntA2S : argP laws_eqIntA2S_a → obP (extObs 0 laws_eqIntA2S_o) → Option laws_eqIntA2S_E.P
  | (a, b, ()), () => bif ((List.length a : Int) != (List.length b : Int)) then (some ((false, ()), ())) else (match loopO laws_eqIntA2S_B0 ((a, b, (0 : Int), ()), ()) with | some (.inl ((t4, ()), ())) => some ((t4, ()), ()) | some (.inr ((), ())) => some ((true, ()), ()) | none => none)
noncomputable def laws_eqIntA2S_x : Cx := ⟨tab, laws_eqIntA2_e, fun _ _ => 0, fun _ => false, [(25, 0), (25, 1), (25, 2), (25, 3)], []⟩
noncomputable def c58 : Code := bodyOf Try.f58
noncomputable def laws_eqIntA2S_A : Ann := .seq .nil (.seq .nil (.seq (.seq .nil (.loop laws_eqIntA2S_J0 laws_eqIntA2S_O0 laws_eqIntA2S_B0 (.seq .nil (.seq (.seq (.draw [(0, .flo), (1, .flo), (2, .flo), (3, .flo), (4, .flo), (5, .flo), (6, .flo), (7, .flo), (8, .sole), (9, .flo)]) .nil) .nil)))) .nil))
theorem laws_eqIntA2S_r0 (p : laws_eqIntA2S_J0.P) : run laws_eqIntA2S_x (subc [1, 1, 0, 1, 0, 0] c58) (.seq .nil (.seq (.seq (.draw [(0, .flo), (1, .flo), (2, .flo), (3, .flo), (4, .flo), (5, .flo), (6, .flo), (7, .flo), (8, .sole), (9, .flo)]) .nil) .nil)) (laws_eqIntA2S_J0.S p) (leaf laws_eqIntA2S_J0 laws_eqIntA2S_O0) = laws_eqIntA2S_B0 p := by kernel_rfl
noncomputable def laws_eqIntA2S_D : Ve.Fn := ⟨58, laws_eqIntA2S_a, laws_eqIntA2S_o, laws_eqIntA2S_E, laws_eqIntA2S⟩
theorem laws_eqIntA2S_w : Walk Try.prog laws_eqIntA2S_x laws_eqIntA2S_D Try.f58 c58 27 laws_eqIntA2S_A :=
  ⟨⟨Try.func58, by kernel_rfl, by kernel_rfl, by kernel_rfl, by decide, by kernel_rfl, Nat.le_of_ble_eq_true (by kernel_rfl)⟩, by kernel_rfl, by kernel_rfl, by kernel_rfl, kcast (by kernel_rfl) (⟨laws_eqIntA2S_r0, trivial⟩ : (∀ p, run laws_eqIntA2S_x (subc [1, 1, 0, 1, 0, 0] c58) (.seq .nil (.seq (.seq (.draw [(0, .flo), (1, .flo), (2, .flo), (3, .flo), (4, .flo), (5, .flo), (6, .flo), (7, .flo), (8, .sole), (9, .flo)]) .nil) .nil)) (laws_eqIntA2S_J0.S p) (leaf laws_eqIntA2S_J0 laws_eqIntA2S_O0) = laws_eqIntA2S_B0 p) ∧ True), by kernel_rfl, fun x y => by kernel_rfl⟩
theorem laws_eqIntA2S_s : laws_eqIntA2S_D.Says Try.prog := laws_eqIntA2S_w.says follows tabOk laws_eqIntA2_e_ok
noncomputable def laws_eqIntA2S_e : Env := more laws_eqIntA2_e laws_eqIntA2S_D
theorem laws_eqIntA2S_e_ok : EnvOk Try.prog laws_eqIntA2S_e := more_ok laws_eqIntA2_e_ok laws_eqIntA2S_s
/-! loop.example/g01128/laws.eqSpace -/
abbrev laws_eqSpace_E : Ve.End := ⟨[⟨4, .shr, .bool, none⟩], []⟩
abbrev laws_eqSpace_a : List ASh := [.val (.prod (.list (.list I)) (.list (.prod I I))), .val (.prod (.list (.list I)) (.list (.prod I I)))]
abbrev laws_eqSpace_o : List OSh := []
noncomputable def laws_eqSpace : argP laws_eqSpace_a → obP (extObs 0 laws_eqSpace_o) → Option laws_eqSpace_E.P
  | (a, b, ()), () => match laws_eqIntSS (a.1, b.1, ()) () with | some ((r, ()), ()) => (bif (!r) then (some ((false, ()), ())) else (match laws_eqIntA2S (a.2, b.2, ()) () with | some ((r2, ()), ()) => (bif (!r2) then (some ((false, ()), ())) else (some ((true, ()), ()))) | none => none)) | none => none
noncomputable def laws_eqSpace_x : Cx := ⟨tab, laws_eqIntA2S_e, fun _ _ => 0, fun _ => false, [(9, 0), (9, 1), (9, 2), (9, 3), (15, 0), (15, 1), (15, 2), (15, 3)], [(2, 0), (3, 0)]⟩
noncomputable def c20 : Code := bodyOf Try.f20
noncomputable def laws_eqSpace_A : Ann := .nil
noncomputable def laws_eqSpace_D : Ve.Fn := ⟨20, laws_eqSpace_a, laws_eqSpace_o, laws_eqSpace_E, laws_eqSpace⟩
theorem laws_eqSpace_w : Walk Try.prog laws_eqSpace_x laws_eqSpace_D Try.f20 c20 17 laws_eqSpace_A :=
  ⟨⟨Try.func20, by kernel_rfl, by kernel_rfl, by kernel_rfl, by decide, by kernel_rfl, Nat.le_of_ble_eq_true (by kernel_rfl)⟩, by kernel_rfl, by kernel_rfl, by kernel_rfl, kcast (by kernel_rfl) trivial, by kernel_rfl, fun x y => by kernel_rfl⟩
theorem laws_eqSpace_s : laws_eqSpace_D.Says Try.prog := laws_eqSpace_w.says follows tabOk laws_eqIntA2S_e_ok
noncomputable def laws_eqSpace_e : Env := more laws_eqIntA2S_e laws_eqSpace_D
theorem laws_eqSpace_e_ok : EnvOk Try.prog laws_eqSpace_e := more_ok laws_eqIntA2S_e_ok laws_eqSpace_s
/-! loop.example/g01128/laws.markIntS -/
abbrev laws_markIntS_e0v_ls_J0 : Tpl := ⟨[(0, .same (1000000, 0) []), (1, .val I), (5, .val I)], [((1000000, 0), .vec .shr I)], []⟩
abbrev laws_markIntS_e0v_ls_J1 : Tpl := ⟨[(1, .val I)], [((1000000, 0), .vec .shr I)], []⟩
abbrev laws_markIntS_e0v_ls_E : Ve.End := ⟨[⟨4, .shr, I, none⟩], [.vec .shr I]⟩
abbrev laws_markIntS_e0v_ls_a : List ASh := [.ext 0, .val I]
abbrev laws_markIntS_e0v_ls_o : List OSh := [.vec .shr I]
abbrev laws_markIntS_e0v_ls_O0 : Out := .one (.ex 0) laws_markIntS_e0v_ls_J1
noncomputable def laws_markIntS_e0v_ls_B0 : laws_markIntS_e0v_ls_J0.P → Option (laws_markIntS_e0v_ls_J0.P ⊕ laws_markIntS_e0v_ls_O0.P)
  | ((k, i, ()), (o0, ())) => bif (decide (i < (List.length o0 : Int))) then (guardB (inb i (List.length o0)) (some (.inl (((w64 (k + (1 : Int))), (w64 (i + (1 : Int))), ()), ((List.set o0 (Int.toNat i) k), ()))))) else (some (.inr ((k, ()), (o0, ()))))
noncomputable def laws_markIntS_e0v_ls : argP laws_markIntS_e0v_ls_a → obP (extObs 0 laws_markIntS_e0v_ls_o) → Option laws_markIntS_e0v_ls_E.P
  | (k, ()), (o0, ()) => match loopO laws_markIntS_e0v_ls_B0 ((k, (0 : Int), ()), (o0, ())) with | some ((k2, ()), (o0_2, ())) => some ((k2, ()), (o0_2, ())) | none => none
noncomputable def laws_markIntS_e0v_ls_x : Cx := ⟨tab, laws_eqSpace_e, fun _ _ => 0, fun _ => false, [], []⟩
noncomputable def c30 : Code := bodyOf Try.f30
noncomputable def laws_markIntS_e0v_ls_A : Ann := .seq .nil (.seq (.seq .nil (.loop laws_markIntS_e0v_ls_J0 laws_markIntS_e0v_ls_O0 laws_markIntS_e0v_ls_B0 .nil)) .nil)
theorem laws_markIntS_e0v_ls_r0 (p : laws_markIntS_e0v_ls_J0.P) : run laws_markIntS_e0v_ls_x (subc [1, 0, 1, 0, 0] c30) .nil (laws_markIntS_e0v_ls_J0.S p) (leaf laws_markIntS_e0v_ls_J0 laws_markIntS_e0v_ls_O0) = laws_markIntS_e0v_ls_B0 p := by kernel_rfl
noncomputable def laws_markIntS_e0v_ls_D : Ve.Fn := ⟨30, laws_markIntS_e0v_ls_a, laws_markIntS_e0v_ls_o, laws_markIntS_e0v_ls_E, laws_markIntS_e0v_ls⟩
theorem laws_markIntS_e0v_ls_w : Walk Try.prog laws_markIntS_e0v_ls_x laws_markIntS_e0v_ls_D Try.f30 c30 19 laws_markIntS_e0v_ls_A :=
  ⟨⟨Try.func30, by kernel_rfl, by kernel_rfl, by kernel_rfl, by decide, by kernel_rfl, Nat.le_of_ble_eq_true (by kernel_rfl)⟩, by kernel_rfl, by kernel_rfl, by kernel_rfl, kcast (by kernel_rfl) (⟨laws_markIntS_e0v_ls_r0, trivial⟩ : (∀ p, run laws_markIntS_e0v_ls_x (subc [1, 0, 1, 0, 0] c30) .nil (laws_markIntS_e0v_ls_J0.S p) (leaf laws_markIntS_e0v_ls_J0 laws_markIntS_e0v_ls_O0) = laws_markIntS_e0v_ls_B0 p) ∧ True), by kernel_rfl, fun x y => by kernel_rfl⟩
theorem laws_markIntS_e0v_ls_s : laws_markIntS_e0v_ls_D.Says Try.prog := laws_markIntS_e0v_ls_w.says follows tabOk laws_eqSpace_e_ok
noncomputable def laws_markIntS_e0v_ls_e : Env := more laws_eqSpace_e laws_markIntS_e0v_ls_D
theorem laws_markIntS_e0v_ls_e_ok : EnvOk Try.prog laws_markIntS_e0v_ls_e := more_ok laws_eqSpace_e_ok laws_markIntS_e0v_ls_s
/-! loop.example/g01128/laws.markIntSS -/
abbrev laws_markIntSS_e0v_l1_J0 : Tpl := ⟨[(0, .same (1000000, 0) []), (1, .val I), (5, .val I)], [((1000000, 0), .vec (.own .shr) (.list I))], []⟩
abbrev laws_markIntSS_e0v_l1_J1 : Tpl := ⟨[(1, .val I)], [((1000000, 0), .vec (.own .shr) (.list I))], []⟩
abbrev laws_markIntSS_e0v_l1_E : Ve.End := ⟨[⟨4, .shr, I, none⟩], [.vec (.own .shr) (.list I)]⟩
abbrev laws_markIntSS_e0v_l1_a : List ASh := [.ext 0, .val I]
abbrev laws_markIntSS_e0v_l1_o : List OSh := [.vec (.own .shr) (.list I)]
abbrev laws_markIntSS_e0v_l1_O0 : Out := .one (.ex 0) laws_markIntSS_e0v_l1_J1
noncomputable def laws_markIntSS_e0v_l1_B0 : laws_markIntSS_e0v_l1_J0.P → Option (laws_markIntSS_e0v_l1_J0.P ⊕ laws_markIntSS_e0v_l1_O0.P)
  | ((k, i, ()), (o0, ())) => bif (decide (i < (List.length o0 : Int))) then (guardB (inb i (List.length o0)) (match laws_markIntS_e0v_ls (k, ()) ((List.getD o0 (Int.toNat i) ([] : (List Int))), ()) with | some ((r, ()), (o, ())) => some (.inl ((r, (w64 (i + (1 : Int))), ()), ((List.set o0 (Int.toNat i) o), ()))) | none => none)) else (some (.inr ((k, ()), (o0, ()))))
noncomputable def laws_markIntSS_e0v_l1 : argP laws_markIntSS_e0v_l1_a → obP (extObs 0 laws_markIntSS_e0v_l1_o) → Option laws_markIntSS_e0v_l1_E.P
  | (k, ()), (o0, ()) => match loopO laws_markIntSS_e0v_l1_B0 ((k, (0 : Int), ()), (o0, ())) with | some ((k2, ()), (o0_2, ())) => some ((k2, ()), (o0_2, ())) | none => none
noncomputable def laws_markIntSS_e0v_l1_x : Cx := ⟨tab, laws_markIntS_e0v_ls_e, fun f n => bif Nat.beq f 30 && Nat.beq n 0 then 1 else 0, fun _ => false, [(17, 0), (17, 1), (17, 2), (17, 3)], []⟩
noncomputable def c36 : Code := bodyOf Try.f36
noncomputable def laws_markIntSS_e0v_l1_A : Ann := .seq .nil (.seq (.seq .nil (.loop laws_markIntSS_e0v_l1_J0 laws_markIntSS_e0v_l1_O0 laws_markIntSS_e0v_l1_B0 .nil)) .nil)
theorem laws_markIntSS_e0v_l1_r0 (p : laws_markIntSS_e0v_l1_J0.P) : run laws_markIntSS_e0v_l1_x (subc [1, 0, 1, 0, 0] c36) .nil (laws_markIntSS_e0v_l1_J0.S p) (leaf laws_markIntSS_e0v_l1_J0 laws_markIntSS_e0v_l1_O0) = laws_markIntSS_e0v_l1_B0 p := by kernel_rfl
noncomputable def laws_markIntSS_e0v_l1_D : Ve.Fn := ⟨36, laws_markIntSS_e0v_l1_a, laws_markIntSS_e0v_l1_o, laws_markIntSS_e0v_l1_E, laws_markIntSS_e0v_l1⟩
theorem laws_markIntSS_e0v_l1_w : Walk Try.prog laws_markIntSS_e0v_l1_x laws_markIntSS_e0v_l1_D Try.f36 c36 19 laws_markIntSS_e0v_l1_A :=
  ⟨⟨Try.func36, by kernel_rfl, by kernel_rfl, by kernel_rfl, by decide, by kernel_rfl, Nat.le_of_ble_eq_true (by kernel_rfl)⟩, by kernel_rfl, by kernel_rfl, by kernel_rfl, kcast (by kernel_rfl) (⟨laws_markIntSS_e0v_l1_r0, trivial⟩ : (∀ p, run laws_markIntSS_e0v_l1_x (subc [1, 0, 1, 0, 0] c36) .nil (laws_markIntSS_e0v_l1_J0.S p) (leaf laws_markIntSS_e0v_l1_J0 laws_markIntSS_e0v_l1_O0) = laws_markIntSS_e0v_l1_B0 p) ∧ True), by kernel_rfl, fun x y => by kernel_rfl⟩
theorem laws_markIntSS_e0v_l1_s : laws_markIntSS_e0v_l1_D.Says Try.prog := laws_markIntSS_e0v_l1_w.says follows tabOk laws_markIntS_e0v_ls_e_ok
noncomputable def laws_markIntSS_e0v_l1_e : Env := more laws_markIntS_e0v_ls_e laws_markIntSS_e0v_l1_D
theorem laws_markIntSS_e0v_l1_e_ok : EnvOk Try.prog laws_markIntSS_e0v_l1_e := more_ok laws_markIntS_e0v_ls_e_ok laws_markIntSS_e0v_l1_s
/-! loop.example/g01128/laws.markIntA2S -/
abbrev laws_markIntA2S_e0v_ls_J0 : Tpl := ⟨[(0, .same (1000000, 0) []), (1, .val I), (5, .val I), (6, .val I)], [((1000000, 0), .vec .shr (.prod I I))], []⟩
abbrev laws_markIntA2S_e0v_ls_J1 : Tpl := ⟨[(0, .same (1000000, 0) []), (1, .val I), (5, .val I)], [((1000000, 0), .vec .shr (.prod I I))], []⟩
abbrev laws_markIntA2S_e0v_ls_J2 : Tpl := ⟨[(1, .val I)], [((1000000, 0), .vec .shr (.prod I I))], []⟩
abbrev laws_markIntA2S_e0v_ls_E : Ve.End := ⟨[⟨4, .shr, I, none⟩], [.vec .shr (.prod I I)]⟩
abbrev laws_markIntA2S_e0v_ls_a : List ASh := [.ext 0, .val I]
abbrev laws_markIntA2S_e0v_ls_o : List OSh := [.vec .shr (.prod I I)]
abbrev laws_markIntA2S_e0v_ls_O0 : Out := .one (.ex 2) laws_markIntA2S_e0v_ls_J1
noncomputable def laws_markIntA2S_e0v_ls_B0 : laws_markIntA2S_e0v_ls_J0.P → Option (laws_markIntA2S_e0v_ls_J0.P ⊕ laws_markIntA2S_e0v_ls_O0.P)
  | ((k, i, j, ()), (o0, ())) => bif (decide (j < (2 : Int))) then (guardB (inb i (List.length o0)) (guardB (decide (0 ≤ j) && decide (j < 2)) (some (.inl (((w64 (k + (1 : Int))), i, (w64 (j + (1 : Int))), ()), ((List.set o0 (Int.toNat i) (bif Nat.beq (Int.toNat j) 0 then (k, (List.getD o0 (Int.toNat i) ((0 : Int), (0 : Int))).2) else ((List.getD o0 (Int.toNat i) ((0 : Int), (0 : Int))).1, k))), ())))))) else (some (.inr ((k, i, ()), (o0, ()))))
abbrev laws_markIntA2S_e0v_ls_O1 : Out := .one (.ex 0) laws_markIntA2S_e0v_ls_J2
noncomputable def laws_markIntA2S_e0v_ls_B1 : laws_markIntA2S_e0v_ls_J1.P → Option (laws_markIntA2S_e0v_ls_J1.P ⊕ laws_markIntA2S_e0v_ls_O1.P)
  | ((k, i, ()), (o0, ())) => bif (decide (i < (List.length o0 : Int))) then (match loopO laws_markIntA2S_e0v_ls_B0 ((k, i, (0 : Int), ()), (o0, ())) with | some ((k2, i2, ()), (o0_2, ())) => some (.inl ((k2, (w64 (i2 + (1 : Int))), ()), (o0_2, ()))) | none => none) else (some (.inr ((k, ()), (o0, ()))))
noncomputable def laws_markIntA2S_e0v_ls : argP laws_markIntA2S_e0v_ls_a → obP (extObs 0 laws_markIntA2S_e0v_ls_o) → Option laws_markIntA2S_e0v_ls_E.P
  | (k, ()), (o0, ()) => match loopO laws_markIntA2S_e0v_ls_B1 ((k, (0 : Int), ()), (o0, ())) with | some ((k2, ()), (o0_2, ())) => some ((k2, ()), (o0_2, ())) | none => none
noncomputable def laws_markIntA2S_e0v_ls_x : Cx := ⟨tab, laws_markIntSS_e0v_l1_e, fun _ _ => 0, fun _ => false, [], []⟩
noncomputable def c76 : Code := bodyOf Try.f76
noncomputable def laws_markIntA2S_e0v_ls_A : Ann := .seq .nil (.seq (.seq .nil (.loop laws_markIntA2S_e0v_ls_J1 laws_markIntA2S_e0v_ls_O1 laws_markIntA2S_e0v_ls_B1 (.seq .nil (.seq (.seq .nil (.loop laws_markIntA2S_e0v_ls_J0 laws_markIntA2S_e0v_ls_O0 laws_markIntA2S_e0v_ls_B0 .nil)) .nil)))) .nil)
theorem laws_markIntA2S_e0v_ls_r0 (p : laws_markIntA2S_e0v_ls_J1.P) : run laws_markIntA2S_e0v_ls_x (subc [1, 0, 1, 0, 0] c76) (.seq .nil (.seq (.seq .nil (.loop laws_markIntA2S_e0v_ls_J0 laws_markIntA2S_e0v_ls_O0 laws_markIntA2S_e0v_ls_B0 .nil)) .nil)) (laws_markIntA2S_e0v_ls_J1.S p) (leaf laws_markIntA2S_e0v_ls_J1 laws_markIntA2S_e0v_ls_O1) = laws_markIntA2S_e0v_ls_B1 p := by kernel_rfl
theorem laws_markIntA2S_e0v_ls_r1 (p : laws_markIntA2S_e0v_ls_J0.P) : run laws_markIntA2S_e0v_ls_x (subc [1, 0, 1, 0, 0, 1, 0, 0, 1, 0, 0] c76) .nil (laws_markIntA2S_e0v_ls_J0.S p) (leaf laws_markIntA2S_e0v_ls_J0 laws_markIntA2S_e0v_ls_O0) = laws_markIntA2S_e0v_ls_B0 p := by kernel_rfl
noncomputable def laws_markIntA2S_e0v_ls_D : Ve.Fn := ⟨76, laws_markIntA2S_e0v_ls_a, laws_markIntA2S_e0v_ls_o, laws_markIntA2S_e0v_ls_E, laws_markIntA2S_e0v_ls⟩
theorem laws_markIntA2S_e0v_ls_w : Walk Try.prog laws_markIntA2S_e0v_ls_x laws_markIntA2S_e0v_ls_D Try.f76 c76 26 laws_markIntA2S_e0v_ls_A :=
  ⟨⟨Try.func76, by kernel_rfl, by kernel_rfl, by kernel_rfl, by decide, by kernel_rfl, Nat.le_of_ble_eq_true (by kernel_rfl)⟩, by kernel_rfl, by kernel_rfl, by kernel_rfl, kcast (by kernel_rfl) (⟨laws_markIntA2S_e0v_ls_r0, laws_markIntA2S_e0v_ls_r1, trivial⟩ : (∀ p, run laws_markIntA2S_e0v_ls_x (subc [1, 0, 1, 0, 0] c76) (.seq .nil (.seq (.seq .nil (.loop laws_markIntA2S_e0v_ls_J0 laws_markIntA2S_e0v_ls_O0 laws_markIntA2S_e0v_ls_B0 .nil)) .nil)) (laws_markIntA2S_e0v_ls_J1.S p) (leaf laws_markIntA2S_e0v_ls_J1 laws_markIntA2S_e0v_ls_O1) = laws_markIntA2S_e0v_ls_B1 p) ∧ (∀ p, run laws_markIntA2S_e0v_ls_x (subc [1, 0, 1, 0, 0, 1, 0, 0, 1, 0, 0] c76) .nil (laws_markIntA2S_e0v_ls_J0.S p) (leaf laws_markIntA2S_e0v_ls_J0 laws_markIntA2S_e0v_ls_O0) = laws_markIntA2S_e0v_ls_B0 p) ∧ True), by kernel_rfl, fun x y => by kernel_rfl⟩
theorem laws_markIntA2S_e0v_ls_s : laws_markIntA2S_e0v_ls_D.Says Try.prog := laws_markIntA2S_e0v_ls_w.says follows tabOk laws_markIntSS_e0v_l1_e_ok
noncomputable def laws_markIntA2S_e0v_ls_e : Env := more laws_markIntSS_e0v_l1_e laws_markIntA2S_e0v_ls_D
theorem laws_markIntA2S_e0v_ls_e_ok : EnvOk Try.prog laws_markIntA2S_e0v_ls_e := more_ok laws_markIntSS_e0v_l1_e_ok laws_markIntA2S_e0v_ls_s
/-! loop.example/g01128/laws.markSpace -/
abbrev laws_markSpace_op21v_E : Ve.End := ⟨[⟨4, .shr, I, none⟩], []⟩
abbrev laws_markSpace_op21v_a : List ASh := [.own (.prod (.own (.own .shr)) (.own .shr)) (.prod (.list (.list I)) (.list (.prod I I))), .val I]
abbrev laws_markSpace_op21v_o : List OSh := []
noncomputable def laws_markSpace_op21v : argP laws_markSpace_op21v_a → obP (extObs 0 laws_markSpace_op21v_o) → Option laws_markSpace_op21v_E.P
  | (a, k, ()), () => match laws_markIntSS_e0v_l1 (k, ()) (a.1, ()) with | some ((r, ()), (o, ())) => (match laws_markIntA2S_e0v_ls (r, ()) (a.2, ()) with | some ((r2, ()), (o2, ())) => some ((r2, ()), ()) | none => none) | none => none
noncomputable def laws_markSpace_op21v_x : Cx := ⟨tab, laws_markIntA2S_e0v_ls_e, fun f n => bif Nat.beq f 36 && Nat.beq n 0 then 1 else bif Nat.beq f 76 && Nat.beq n 0 then 1 else 0, fun _ => false, [(8, 0), (8, 1), (8, 2), (8, 3), (12, 0), (12, 1), (12, 2), (12, 3)], []⟩
noncomputable def c29 : Code := bodyOf Try.f29
noncomputable def laws_markSpace_op21v_A : Ann := .nil
noncomputable def laws_markSpace_op21v_D : Ve.Fn := ⟨29, laws_markSpace_op21v_a, laws_markSpace_op21v_o, laws_markSpace_op21v_E, laws_markSpace_op21v⟩
theorem laws_markSpace_op21v_w : Walk Try.prog laws_markSpace_op21v_x laws_markSpace_op21v_D Try.f29 c29 14 laws_markSpace_op21v_A :=
  ⟨⟨Try.func29, by kernel_rfl, by kernel_rfl, by kernel_rfl, by decide, by kernel_rfl, Nat.le_of_ble_eq_true (by kernel_rfl)⟩, by kernel_rfl, by kernel_rfl, by kernel_rfl, kcast (by kernel_rfl) trivial, by kernel_rfl, fun x y => by kernel_rfl⟩
theorem laws_markSpace_op21v_s : laws_markSpace_op21v_D.Says Try.prog := laws_markSpace_op21v_w.says follows tabOk laws_markIntA2S_e0v_ls_e_ok
noncomputable def laws_markSpace_op21v_e : Env := more laws_markIntA2S_e0v_ls_e laws_markSpace_op21v_D
theorem laws_markSpace_op21v_e_ok : EnvOk Try.prog laws_markSpace_op21v_e := more_ok laws_markIntA2S_e0v_ls_e_ok laws_markSpace_op21v_s
/-! loop.example/g01128/laws.heldIntS -/
abbrev laws_heldIntS_J0 : Tpl := ⟨[(0, .val (.list I)), (1, .val I), (5, .val I)], [], []⟩
abbrev laws_heldIntS_J1 : Tpl := ⟨[(4, .val I)], [], []⟩
abbrev laws_heldIntS_J2 : Tpl := ⟨[(1, .val I)], [], []⟩
abbrev laws_heldIntS_E : Ve.End := ⟨[⟨4, .shr, I, none⟩], []⟩
abbrev laws_heldIntS_a : List ASh := [.val (.list I), .val I]
abbrev laws_heldIntS_o : List OSh := []
abbrev laws_heldIntS_O0 : Out := .or .ret laws_heldIntS_J1 (.one (.ex 0) laws_heldIntS_J2)
noncomputable def laws_heldIntS_B0 : laws_heldIntS_J0.P → Option (laws_heldIntS_J0.P ⊕ laws_heldIntS_O0.P)
  | ((a, k, i, ()), ()) => bif (decide (i < (List.length a : Int))) then (guardB (inb i (List.length a)) (bif ((List.getD a (Int.toNat i) (0 : Int)) != k) then (some (.inr (.inl (((-1 : Int), ()), ())))) else (some (.inl ((a, (w64 (k + (1 : Int))), (w64 (i + (1 : Int))), ()), ()))))) else (some (.inr (.inr ((k, ()), ()))))
noncomputable def laws_heldIntS : argP laws_heldIntS_a → obP (extObs 0 laws_heldIntS_o) → Option laws_heldIntS_E.P
  | (a, k, ()), () => match loopO laws_heldIntS_B0 ((a, k, (0 : Int), ()), ()) with | some (.inl ((t4, ()), ())) => some ((t4, ()), ()) | some (.inr ((k2, ()), ())) => some ((k2, ()), ()) | none => none
noncomputable def laws_heldIntS_x : Cx := ⟨tab, laws_markSpace_op21v_e, fun _ _ => 0, fun _ => false, [], []⟩
noncomputable def c31 : Code := bodyOf Try.f31
noncomputable def laws_heldIntS_A : Ann := .seq .nil (.seq (.seq .nil (.loop laws_heldIntS_J0 laws_heldIntS_O0 laws_heldIntS_B0 .nil)) .nil)
theorem laws_heldIntS_r0 (p : laws_heldIntS_J0.P) : run laws_heldIntS_x (subc [1, 0, 1, 0, 0] c31) .nil (laws_heldIntS_J0.S p) (leaf laws_heldIntS_J0 laws_heldIntS_O0) = laws_heldIntS_B0 p := by kernel_rfl
noncomputable def laws_heldIntS_D : Ve.Fn := ⟨31, laws_heldIntS_a, laws_heldIntS_o, laws_heldIntS_E, laws_heldIntS⟩
theorem laws_heldIntS_w : Walk Try.prog laws_heldIntS_x laws_heldIntS_D Try.f31 c31 21 laws_heldIntS_A :=
  ⟨⟨Try.func31, by kernel_rfl, by kernel_rfl, by kernel_rfl, by decide, by kernel_rfl, Nat.le_of_ble_eq_true (by kernel_rfl)⟩, by kernel_rfl, by kernel_rfl, by kernel_rfl, kcast (by kernel_rfl) (⟨laws_heldIntS_r0, trivial⟩ : (∀ p, run laws_heldIntS_x (subc [1, 0, 1, 0, 0] c31) .nil (laws_heldIntS_J0.S p) (leaf laws_heldIntS_J0 laws_heldIntS_O0) = laws_heldIntS_B0 p) ∧ True), by kernel_rfl, fun x y => by kernel_rfl⟩
theorem laws_heldIntS_s : laws_heldIntS_D.Says Try.prog := laws_heldIntS_w.says follows tabOk laws_markSpace_op21v_e_ok
noncomputable def laws_heldIntS_e : Env := more laws_markSpace_op21v_e laws_heldIntS_D
theorem laws_heldIntS_e_ok : EnvOk Try.prog laws_heldIntS_e := more_ok laws_markSpace_op21v_e_ok laws_heldIntS_s
/-! loop.example/g01128/laws.FnExactCheapTree -/
abbrev laws_FnExactCheapTree_J0 : Tpl := ⟨[(1, .val (.list I)), (2, .cst (.prod (.list (.list I)) (.list (.prod I I)))), (6, .val (.list I)), (7, .val .bool), (8, .ptr (8, 0)), (9, .own .shr I), (10, .own .shr I), (11, .val .bool), (56, .val .bool)], [((8, 0), .box (.prod (.own (.own .shr)) (.own .shr)) (.prod (.list (.list I)) (.list (.prod I I))))], []⟩
abbrev laws_FnExactCheapTree_J1 : Tpl := ⟨[(1, .val (.list I)), (2, .cst (.prod (.list (.list I)) (.list (.prod I I)))), (6, .val (.list I)), (7, .val .bool), (8, .ptr (8, 0)), (9, .own .shr I), (10, .own .shr I), (11, .val .bool), (53, .val (.prod (.list (.list I)) (.list (.prod I I))))], [((8, 0), .box (.prod (.own (.own .shr)) (.own .shr)) (.prod (.list (.list I)) (.list (.prod I I))))], []⟩
abbrev laws_FnExactCheapTree_E : Ve.End := ⟨[⟨4, .shr, .bool, none⟩], []⟩
abbrev laws_FnExactCheapTree_a : List ASh := [.val (.prod (.list (.list I)) (.list (.prod I I))), .val (.list I)]
abbrev laws_FnExactCheapTree_o : List OSh := []
noncomputable def laws_FnExactCheapTree_D0 : laws_FnExactCheapTree_J1.P → Option laws_FnExactCheapTree_J0.P
  | ((t1, t2, t6, t7, t9, t10, t11, t53, ()), (t8, ())) => match laws_toSpace (t53, ()) () with | some ((r, ()), ()) => (match laws_eqSpace ((t8.1, t8.2), (r.1, r.2), ()) () with | some ((r2, ()), ()) => some ((t1, t2, t6, t7, t9, t10, t11, (!r2), ()), (t8, ())) | none => none) | none => none
noncomputable def laws_FnExactCheapTree_T0 : DT laws_FnExactCheapTree_J0 := .node laws_FnExactCheapTree_J1 laws_FnExactCheapTree_D0 (.br [(0, .sole), (2, .sole), (3, .sole), (4, .flo)] .fin (.br [(2, .sole), (0, .qui), (3, .sole), (4, .flo)] .fin .nobr))
noncomputable def laws_FnExactCheapTree : argP laws_FnExactCheapTree_a → obP (extObs 0 laws_FnExactCheapTree_o) → Option laws_FnExactCheapTree_E.P
  | (t0, t1, ()), () => bif (decide ((1048576 : Int) < (List.length t1 : Int))) then (some ((true, ()), ())) else (match laws_szSpace (t0, (1048576 : Int), ()) () with | some ((r, ()), ()) => (bif (decide (r < (0 : Int))) then (some ((true, ()), ())) else (match laws_toSpace (t0, ()) () with | some ((r2, ()), ()) => (match laws_toIntS (t1, ()) () with | some ((r3, ()), ()) => (match spec_CheapTree ((r2.1, r2.2), r3, ()) () with | some ((r4, r5, ()), ()) => (match laws_toSpace (t0, ()) () with | some ((r6, ()), ()) => (match laws_toIntS (t1, ()) () with | some ((r7, ()), ()) => (match impl_CheapTree ((r6.1, r6.2), r7, ()) () with | some ((r8, r9, ()), ()) => (match laws_eqIntS (r8, r4, ()) () with | some ((r10, ()), ()) => (bif (!r10) then (some ((false, ()), ())) else (bif (!(r9 == r5)) then (some ((false, ()), ())) else (match laws_FnExactCheapTree_D0 ((t1, t0, r4, r5, r7, r8, r9, t0, ()), ((r6.1, r6.2), ())) with | some ((t1_2, t2, t6, t7, t9, t10, t11, t56, ()), (t8, ())) => (bif t56 then (some ((false, ()), ())) else (match laws_toIntS (t1_2, ()) () with | some ((r11, ()), ()) => (match laws_eqIntS (t9, r11, ()) () with | some ((r12, ()), ()) => (bif (!r12) then (some ((false, ()), ())) else (match laws_markSpace_op21v ((t8.1, t8.2), (1 : Int), ()) () with | some ((r13, ()), ()) => (match laws_markIntS_e0v_ls (r13, ()) (t9, ()) with | some ((r14, ()), (o, ())) => (bif (decide (r14 < (0 : Int))) then (some ((false, ()), ())) else (match laws_eqIntS (t10, t6, ()) () with | some ((r15, ()), ()) => (bif (!r15) then (some ((false, ()), ())) else (bif (!(t11 == t7)) then (some ((false, ()), ())) else (match laws_markIntS_e0v_ls ((1 : Int), ()) (t10, ()) with | some ((r16, ()), (o2, ())) => (match laws_heldIntS (o2, (1 : Int), ()) () with | some ((r17, ()), ()) => (bif (decide (r17 < (0 : Int))) then (some ((false, ()), ())) else (bif (r17 != r16) then (some ((false, ()), ())) else (match laws_toSpace (t2, ()) () with | some ((r18, ()), ()) => (match laws_toIntS (t1_2, ()) () with | some ((r19, ()), ()) => (match impl_CheapTree ((r18.1, r18.2), r19, ()) () with | some ((r20, r21, ()), ()) => (match laws_eqIntS (r20, t6, ()) () with | some ((r22, ()), ()) => (bif (!r22) then (some ((false, ()), ())) else (bif (!(r21 == t7)) then (some ((false, ()), ())) else (match laws_heldIntS (o2, (1 : Int), ()) () with | some ((r23, ()), ()) => (bif (decide (r23 < (0 : Int))) then (some ((false, ()), ())) else (bif (r23 != r16) then (some ((false, ()), ())) else (some ((true, ()), ())))) | none => none))) | none => none) | none => none) | none => none) | none => none))) | none => none) | none => none))) | none => none)) | none => none) | none => none)) | none => none) | none => none)) | none => none))) | none => none) | none => none) | none => none) | none => none) | none => none) | none => none) | none => none)) | none => none)
noncomputable def laws_FnExactCheapTree_x : Cx := ⟨tab, laws_heldIntS_e, fun f n => bif Nat.beq f 29 && Nat.beq n 0 then 2 else bif Nat.beq f 30 && Nat.beq n 0 then 1 else 0, fun _ => false, [(22, 0), (22, 1), (22, 2), (22, 3), (27, 0), (27, 1), (27, 2), (27, 3), (29, 0), (29, 1), (29, 2), (29, 3), (30, 0), (30, 1), (30, 2), (30, 3), (6, 0), (45, 0), (45, 1), (45, 2), (45, 3), (54, 0), (54, 1), (54, 2), (54, 3), (55, 0), (55, 1), (55, 2), (55, 3), (59, 0), (59, 1), (59, 2), (59, 3), (60, 0), (60, 1), (60, 2), (60, 3), (64, 0), (64, 1), (64, 2), (64, 3), (67, 0), (67, 1), (67, 2), (67, 3), (73, 0), (73, 1), (73, 2), (73, 3), (83, 0), (83, 1), (83, 2), (83, 3), (86, 0), (86, 1), (86, 2), (86, 3), (94, 0), (94, 1), (94, 2), (94, 3), (96, 0), (96, 1), (96, 2), (96, 3), (97, 0), (97, 1), (97, 2), (97, 3), (15, 0), (102, 0), (102, 1), (102, 2), (102, 3), (111, 0), (111, 1), (111, 2), (111, 3)], [(2, 0)]⟩
noncomputable def c10 : Code := bodyOf Try.f10
noncomputable def laws_FnExactCheapTree_A : Ann := .seq .nil (.seq .nil (.seq .nil (.seq .nil (.seq .nil (.seq .nil (.seq .nil (.seq .nil (.seq .nil (.seq .nil (.seq (.seq (.draws [(1, .flo)] laws_FnExactCheapTree_J0 laws_FnExactCheapTree_T0) .nil) .nil))))))))))
theorem laws_FnExactCheapTree_D0b0 (p : laws_FnExactCheapTree_J1.P) : runDrawn laws_FnExactCheapTree_x (opsOf (subc [1, 1, 1, 1, 1, 1, 1, 1, 1, 1, 0, 0] c10)) [(0, .sole), (2, .sole), (3, .sole), (4, .flo)] (laws_FnExactCheapTree_J1.S p) (endT laws_FnExactCheapTree_x (.fin : DT laws_FnExactCheapTree_J0)) = laws_FnExactCheapTree_D0 p := by kernel_rfl
theorem laws_FnExactCheapTree_D0b1 (p : laws_FnExactCheapTree_J1.P) : runDrawn laws_FnExactCheapTree_x (opsOf (subc [1, 1, 1, 1, 1, 1, 1, 1, 1, 1, 0, 0] c10)) [(2, .sole), (0, .qui), (3, .sole), (4, .flo)] (laws_FnExactCheapTree_J1.S p) (endT laws_FnExactCheapTree_x (.fin : DT laws_FnExactCheapTree_J0)) = laws_FnExactCheapTree_D0 p := by kernel_rfl
noncomputable def laws_FnExactCheapTree_D : Ve.Fn := ⟨10, laws_FnExactCheapTree_a, laws_FnExactCheapTree_o, laws_FnExactCheapTree_E, laws_FnExactCheapTree⟩
theorem laws_FnExactCheapTree_w : Walk Try.prog laws_FnExactCheapTree_x laws_FnExactCheapTree_D Try.f10 c10 117 laws_FnExactCheapTree_A :=
  ⟨⟨Try.func10, by kernel_rfl, by kernel_rfl, by kernel_rfl, by decide, by kernel_rfl, Nat.le_of_ble_eq_true (by kernel_rfl)⟩, by kernel_rfl, by kernel_rfl, by kernel_rfl, kcast (by kernel_rfl) (⟨laws_FnExactCheapTree_D0b0, laws_FnExactCheapTree_D0b1, trivial⟩ : (∀ p, runDrawn laws_FnExactCheapTree_x (opsOf (subc [1, 1, 1, 1, 1, 1, 1, 1, 1, 1, 0, 0] c10)) [(0, .sole), (2, .sole), (3, .sole), (4, .flo)] (laws_FnExactCheapTree_J1.S p) (endT laws_FnExactCheapTree_x (.fin : DT laws_FnExactCheapTree_J0)) = laws_FnExactCheapTree_D0 p) ∧ (∀ p, runDrawn laws_FnExactCheapTree_x (opsOf (subc [1, 1, 1, 1, 1, 1, 1, 1, 1, 1, 0, 0] c10)) [(2, .sole), (0, .qui), (3, .sole), (4, .flo)] (laws_FnExactCheapTree_J1.S p) (endT laws_FnExactCheapTree_x (.fin : DT laws_FnExactCheapTree_J0)) = laws_FnExactCheapTree_D0 p) ∧ True), by kernel_rfl, fun x y => by kernel_rfl⟩
theorem laws_FnExactCheapTree_s : laws_FnExactCheapTree_D.Says Try.prog := laws_FnExactCheapTree_w.says follows tabOk laws_heldIntS_e_ok
noncomputable def laws_FnExactCheapTree_e : Env := more laws_heldIntS_e laws_FnExactCheapTree_D
theorem laws_FnExactCheapTree_e_ok : EnvOk Try.prog laws_FnExactCheapTree_e := more_ok laws_heldIntS_e_ok laws_FnExactCheapTree_s
end Go.Proofs.Ytolabkhcmcfnpaa.V
