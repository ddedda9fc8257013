/-
  What the functions that the law reaches compute: typed pure functions, checked against the code.
-/
import Derived.Test.YtolabkhcmcfnpaaProg
import Derived.Test.YtolabkhcmcfnpaaE3
import Derived.Test.YtolabkhcmcfnpaaS
namespace Go.Proofs.Ytolabkhcmcfnpaa.V
open Go.Ve Go.Proofs
set_option linter.unusedVariables false
set_option linter.unusedSimpArgs false
set_option maxRecDepth 100000
def tab : Tab := [(3, .data ⟨I, 0, 8, false⟩), (4, .data ⟨.bool, 0, 1, false⟩), (22, .data ⟨(.list (.list I)), 0, 24, false⟩), (23, .data ⟨(.list (.prod I I)), 0, 16, false⟩), (25, .data ⟨(.prod (.list (.list I)) (.list (.prod I I))), 2, 48, false⟩), (26, .data ⟨(.list I), 0, 8, false⟩), (30, .data ⟨(.prod (.list (.list I)) (.list (.prod I I))), 2, 48, false⟩), (71, .data ⟨(.prod I I), 2, 16, true⟩), (72, .fn), (73, .data ⟨(.list (.prod I I)), 0, 16, false⟩), (76, .data ⟨(.prod I I), 2, 16, false⟩), (112, .data ⟨(.list .bool), 0, 1, false⟩), (116, .fn), (125, .data ⟨(.int .u64), 0, 8, false⟩), (144, .data ⟨(.int .u32), 0, 4, false⟩), (146, .data ⟨(.int .u64), 0, 8, false⟩)]
theorem follows : Try.prog.follows .mixedOrders = true := by kernel_rfl
theorem ti3 : TiOk Try.prog tab 3 ⟨I, 0, 8, false⟩ := ti_int (by kernel_rfl) Try.underlying3
theorem ti4 : TiOk Try.prog tab 4 ⟨.bool, 0, 1, false⟩ := ti_bool (by kernel_rfl) Try.underlying4
theorem ti22 : TiOk Try.prog tab 22 ⟨(.list (.list I)), 0, 24, false⟩ := ti_list (ie := ⟨(.list I), 0, 8, false⟩) (by kernel_rfl) Try.underlying22 (by kernel_rfl) rfl (by kernel_rfl) (by kernel_rfl)
theorem ti23 : TiOk Try.prog tab 23 ⟨(.list (.prod I I)), 0, 16, false⟩ := ti_list (ie := ⟨(.prod I I), 2, 16, true⟩) (by kernel_rfl) Try.underlying23 (by kernel_rfl) rfl (by kernel_rfl) (by kernel_rfl)
theorem ti25 : TiOk Try.prog tab 25 ⟨(.prod (.list (.list I)) (.list (.prod I I))), 2, 48, false⟩ := ti_struct (by kernel_rfl) Try.underlying25 (by kernel_rfl) (by kernel_rfl) (by kernel_rfl) (by kernel_rfl)
theorem ti26 : TiOk Try.prog tab 26 ⟨(.list I), 0, 8, false⟩ := ti_list (ie := ⟨I, 0, 8, false⟩) (by kernel_rfl) Try.underlying26 (by kernel_rfl) rfl (by kernel_rfl) (by kernel_rfl)
theorem ti30 : TiOk Try.prog tab 30 ⟨(.prod (.list (.list I)) (.list (.prod I I))), 2, 48, false⟩ := ti_struct (by kernel_rfl) Try.underlying30 (by kernel_rfl) (by kernel_rfl) (by kernel_rfl) (by kernel_rfl)
theorem ti71 : TiOk Try.prog tab 71 ⟨(.prod I I), 2, 16, true⟩ := ti_arr (ie := ⟨I, 0, 8, false⟩) (by kernel_rfl) Try.underlying71 (by kernel_rfl) rfl (by kernel_rfl) (by kernel_rfl)
theorem ti72 : FnOk Try.prog 72 := ti_fn (by kernel_rfl) (Try.underlying72)
theorem ti73 : TiOk Try.prog tab 73 ⟨(.list (.prod I I)), 0, 16, false⟩ := ti_list (ie := ⟨(.prod I I), 2, 16, false⟩) (by kernel_rfl) Try.underlying73 (by kernel_rfl) rfl (by kernel_rfl) (by kernel_rfl)
theorem ti76 : TiOk Try.prog tab 76 ⟨(.prod I I), 2, 16, false⟩ := ti_struct (by kernel_rfl) Try.underlying76 (by kernel_rfl) (by kernel_rfl) (by kernel_rfl) (by kernel_rfl)
theorem ti112 : TiOk Try.prog tab 112 ⟨(.list .bool), 0, 1, false⟩ := ti_list (ie := ⟨.bool, 0, 1, false⟩) (by kernel_rfl) Try.underlying112 (by kernel_rfl) rfl (by kernel_rfl) (by kernel_rfl)
theorem ti116 : FnOk Try.prog 116 := ti_fn (by kernel_rfl) (Try.underlying116)
theorem ti125 : TiOk Try.prog tab 125 ⟨(.int .u64), 0, 8, false⟩ := ti_int (by kernel_rfl) Try.underlying125
theorem ti144 : TiOk Try.prog tab 144 ⟨(.int .u32), 0, 4, false⟩ := ti_int (by kernel_rfl) Try.underlying144
theorem ti146 : TiOk Try.prog tab 146 ⟨(.int .u64), 0, 8, false⟩ := ti_int (by kernel_rfl) Try.underlying146
theorem tabOk : TabOk' Try.prog tab := tabOk_of ⟨ti3, ti4, ti22, ti23, ti25, ti26, ti30, ti71, ti72, ti73, ti76, ti112, ti116, ti125, ti144, ti146, trivial⟩
/-! loop.example/g01128/laws.szIntS -/
abbrev laws_szIntS_E : Ve.End := ⟨[⟨4, .shr, I, none⟩], []⟩
abbrev laws_szIntS_a : List ASh := [.val (.list I), .val I]
abbrev laws_szIntS_o : List OSh := []
noncomputable def laws_szIntS : argP laws_szIntS_a → obP (extObs 0 laws_szIntS_o) → Option laws_szIntS_E.P
  | (a, left, ()), () => bif (decide ((w64 (left - (List.length a : Int))) < (0 : Int))) then (some (((-1 : Int), ()), ())) else (some (((w64 (left - (List.length a : Int))), ()), ()))
noncomputable def laws_szIntS_x : Cx := ⟨tab, noEnv, fun _ _ => 0, fun _ => false, [], []⟩
noncomputable def c59 : Code := bodyOf Try.f59
noncomputable def laws_szIntS_A : Ann := .nil
noncomputable def laws_szIntS_D : Ve.Fn := ⟨59, laws_szIntS_a, laws_szIntS_o, laws_szIntS_E, laws_szIntS⟩
theorem laws_szIntS_w : Walk Try.prog laws_szIntS_x laws_szIntS_D Try.f59 c59 12 laws_szIntS_A :=
  ⟨⟨Try.func59, by kernel_rfl, by kernel_rfl, by kernel_rfl, by decide, by kernel_rfl, Nat.le_of_ble_eq_true (by kernel_rfl)⟩, by kernel_rfl, by kernel_rfl, by kernel_rfl, kcast (by kernel_rfl) trivial, by kernel_rfl, fun x y => by kernel_rfl⟩
theorem laws_szIntS_s : laws_szIntS_D.Says Try.prog := laws_szIntS_w.says follows tabOk noEnv_ok
noncomputable def laws_szIntS_e : Env := more noEnv laws_szIntS_D
theorem laws_szIntS_e_ok : EnvOk Try.prog laws_szIntS_e := more_ok noEnv_ok laws_szIntS_s
/-! loop.example/g01128/laws.szIntSS -/
abbrev laws_szIntSS_J0 : Tpl := ⟨[(0, .val (.list (.list I))), (1, .val I), (5, .val I)], [], []⟩
abbrev laws_szIntSS_J1 : Tpl := ⟨[(4, .val I)], [], []⟩
abbrev laws_szIntSS_J2 : Tpl := ⟨[(1, .val I)], [], []⟩
abbrev laws_szIntSS_E : Ve.End := ⟨[⟨4, .shr, I, none⟩], []⟩
abbrev laws_szIntSS_a : List ASh := [.val (.list (.list I)), .val I]
abbrev laws_szIntSS_o : List OSh := []
abbrev laws_szIntSS_O0 : Out := .or .ret laws_szIntSS_J1 (.one (.ex 0) laws_szIntSS_J2)
noncomputable def laws_szIntSS_B0 : laws_szIntSS_J0.P → Option (laws_szIntSS_J0.P ⊕ laws_szIntSS_O0.P)
  | ((a, left, i, ()), ()) => bif (decide (i < (List.length a : Int))) then (guardB (inb i (List.length a)) (match laws_szIntS ((List.getD a (Int.toNat i) ([] : (List Int))), left, ()) () with | some ((r, ()), ()) => (bif (decide (r < (0 : Int))) then (some (.inr (.inl (((-1 : Int), ()), ())))) else (some (.inl ((a, r, (w64 (i + (1 : Int))), ()), ())))) | none => none)) else (some (.inr (.inr ((left, ()), ()))))
noncomputable def laws_szIntSS : argP laws_szIntSS_a → obP (extObs 0 laws_szIntSS_o) → Option laws_szIntSS_E.P
  | (a, left, ()), () => bif (decide ((w64 (left - (List.length a : Int))) < (0 : Int))) then (some (((-1 : Int), ()), ())) else (match loopO laws_szIntSS_B0 ((a, (w64 (left - (List.length a : Int))), (0 : Int), ()), ()) with | some (.inl ((t4, ()), ())) => some ((t4, ()), ()) | some (.inr ((left2, ()), ())) => some ((left2, ()), ()) | none => none)
noncomputable def laws_szIntSS_x : Cx := ⟨tab, laws_szIntS_e, fun _ _ => 0, fun _ => false, [(23, 0), (23, 1), (23, 2), (23, 3)], []⟩
noncomputable def c22 : Code := bodyOf Try.f22
noncomputable def laws_szIntSS_A : Ann := .seq .nil (.seq .nil (.seq .nil (.seq (.seq .nil (.loop laws_szIntSS_J0 laws_szIntSS_O0 laws_szIntSS_B0 .nil)) .nil)))
theorem laws_szIntSS_r0 (p : laws_szIntSS_J0.P) : run laws_szIntSS_x (subc [1, 1, 1, 0, 1, 0, 0] c22) .nil (laws_szIntSS_J0.S p) (leaf laws_szIntSS_J0 laws_szIntSS_O0) = laws_szIntSS_B0 p := by kernel_rfl
noncomputable def laws_szIntSS_D : Ve.Fn := ⟨22, laws_szIntSS_a, laws_szIntSS_o, laws_szIntSS_E, laws_szIntSS⟩
theorem laws_szIntSS_w : Walk Try.prog laws_szIntSS_x laws_szIntSS_D Try.f22 c22 27 laws_szIntSS_A :=
  ⟨⟨Try.func22, by kernel_rfl, by kernel_rfl, by kernel_rfl, by decide, by kernel_rfl, Nat.le_of_ble_eq_true (by kernel_rfl)⟩, by kernel_rfl, by kernel_rfl, by kernel_rfl, kcast (by kernel_rfl) (⟨laws_szIntSS_r0, trivial⟩ : (∀ p, run laws_szIntSS_x (subc [1, 1, 1, 0, 1, 0, 0] c22) .nil (laws_szIntSS_J0.S p) (leaf laws_szIntSS_J0 laws_szIntSS_O0) = laws_szIntSS_B0 p) ∧ True), by kernel_rfl, fun x y => by kernel_rfl⟩
theorem laws_szIntSS_s : laws_szIntSS_D.Says Try.prog := laws_szIntSS_w.says follows tabOk laws_szIntS_e_ok
noncomputable def laws_szIntSS_e : Env := more laws_szIntS_e laws_szIntSS_D
theorem laws_szIntSS_e_ok : EnvOk Try.prog laws_szIntSS_e := more_ok laws_szIntS_e_ok laws_szIntSS_s
/-! loop.example/g01128/laws.szIntA2S -/
abbrev laws_szIntA2S_E : Ve.End := ⟨[⟨4, .shr, I, none⟩], []⟩
abbrev laws_szIntA2S_a : List ASh := [.val (.list (.prod I I)), .val I]
abbrev laws_szIntA2S_o : List OSh := []
noncomputable def laws_szIntA2S : argP laws_szIntA2S_a → obP (extObs 0 laws_szIntA2S_o) → Option laws_szIntA2S_E.P
  | (a, left, ()), () => bif (decide ((w64 (left - (List.length a : Int))) < (0 : Int))) then (some (((-1 : Int), ()), ())) else (some (((w64 (left - (List.length a : Int))), ()), ()))
noncomputable def laws_szIntA2S_x : Cx := ⟨tab, laws_szIntSS_e, fun _ _ => 0, fun _ => false, [], []⟩
noncomputable def c52 : Code := bodyOf Try.f52
noncomputable def laws_szIntA2S_A : Ann := .nil
noncomputable def laws_szIntA2S_D : Ve.Fn := ⟨52, laws_szIntA2S_a, laws_szIntA2S_o, laws_szIntA2S_E, laws_szIntA2S⟩
theorem laws_szIntA2S_w : Walk Try.prog laws_szIntA2S_x laws_szIntA2S_D Try.f52 c52 12 laws_szIntA2S_A :=
  ⟨⟨Try.func52, by kernel_rfl, by kernel_rfl, by kernel_rfl, by decide, by kernel_rfl, Nat.le_of_ble_eq_true (by kernel_rfl)⟩, by kernel_rfl, by kernel_rfl, by kernel_rfl, kcast (by kernel_rfl) trivial, by kernel_rfl, fun x y => by kernel_rfl⟩
theorem laws_szIntA2S_s : laws_szIntA2S_D.Says Try.prog := laws_szIntA2S_w.says follows tabOk laws_szIntSS_e_ok
noncomputable def laws_szIntA2S_e : Env := more laws_szIntSS_e laws_szIntA2S_D
theorem laws_szIntA2S_e_ok : EnvOk Try.prog laws_szIntA2S_e := more_ok laws_szIntSS_e_ok laws_szIntA2S_s
/-! loop.example/g01128/laws.szSpace -/
abbrev laws_szSpace_E : Ve.End := ⟨[⟨4, .shr, I, none⟩], []⟩
abbrev laws_szSpace_a : List ASh := [.val (.prod (.list (.list I)) (.list (.prod I I))), .val I]
abbrev laws_szSpace_o : List OSh := []
noncomputable def laws_szSpace : argP laws_szSpace_a → obP (extObs 0 laws_szSpace_o) → Option laws_szSpace_E.P
  | (a, left, ()), () => match laws_szIntSS (a.1, left, ()) () with | some ((r, ()), ()) => (bif (decide (r < (0 : Int))) then (some (((-1 : Int), ()), ())) else (match laws_szIntA2S (a.2, r, ()) () with | some ((r2, ()), ()) => (bif (decide (r2 < (0 : Int))) then (some (((-1 : Int), ()), ())) else (some ((r2, ()), ()))) | none => none)) | none => none
noncomputable def laws_szSpace_x : Cx := ⟨tab, laws_szIntA2S_e, fun _ _ => 0, fun _ => false, [(8, 0), (8, 1), (8, 2), (8, 3), (14, 0), (14, 1), (14, 2), (14, 3)], [(2, 0)]⟩
noncomputable def c15 : Code := bodyOf Try.f15
noncomputable def laws_szSpace_A : Ann := .nil
noncomputable def laws_szSpace_D : Ve.Fn := ⟨15, laws_szSpace_a, laws_szSpace_o, laws_szSpace_E, laws_szSpace⟩
theorem laws_szSpace_w : Walk Try.prog laws_szSpace_x laws_szSpace_D Try.f15 c15 18 laws_szSpace_A :=
  ⟨⟨Try.func15, by kernel_rfl, by kernel_rfl, by kernel_rfl, by decide, by kernel_rfl, Nat.le_of_ble_eq_true (by kernel_rfl)⟩, by kernel_rfl, by kernel_rfl, by kernel_rfl, kcast (by kernel_rfl) trivial, by kernel_rfl, fun x y => by kernel_rfl⟩
theorem laws_szSpace_s : laws_szSpace_D.Says Try.prog := laws_szSpace_w.says follows tabOk laws_szIntA2S_e_ok
noncomputable def laws_szSpace_e : Env := more laws_szIntA2S_e laws_szSpace_D
theorem laws_szSpace_e_ok : EnvOk Try.prog laws_szSpace_e := more_ok laws_szIntA2S_e_ok laws_szSpace_s
/-! loop.example/g01128/laws.toIntS -/
abbrev laws_toIntS_J0 : Tpl := ⟨[(0, .val (.list I)), (3, .own .shr I), (4, .val I)], [], []⟩
abbrev laws_toIntS_J1 : Tpl := ⟨[(3, .own .shr I)], [], []⟩
abbrev laws_toIntS_E : Ve.End := ⟨[⟨2, (.own .shr), (.list I), none⟩], []⟩
abbrev laws_toIntS_a : List ASh := [.val (.list I)]
abbrev laws_toIntS_o : List OSh := []
abbrev laws_toIntS_O0 : Out := .one (.ex 0) laws_toIntS_J1
noncomputable def laws_toIntS_B0 : laws_toIntS_J0.P → Option (laws_toIntS_J0.P ⊕ laws_toIntS_O0.P)
  | ((a, out, i, ()), ()) => bif (decide (i < (List.length a : Int))) then (guardB (inb i (List.length a)) (guardB (inb i (List.length out)) (some (.inl ((a, (List.set out (Int.toNat i) (List.getD a (Int.toNat i) (0 : Int))), (w64 (i + (1 : Int))), ()), ()))))) else (some (.inr ((out, ()), ())))
noncomputable def laws_toIntS : argP laws_toIntS_a → obP (extObs 0 laws_toIntS_o) → Option laws_toIntS_E.P
  | (a, ()), () => guardB (decide (0 ≤ (List.length a : Int)) && decide ((List.length a : Int) ≤ (List.length a : Int)) && decide ((List.length a : Int) * 8 ≤ 140737488355328)) (match loopO laws_toIntS_B0 ((a, (List.replicate (Int.toNat (List.length a : Int)) (0 : Int)), (0 : Int), ()), ()) with | some ((out, ()), ()) => some ((out, ()), ()) | none => none)
noncomputable def laws_toIntS_x : Cx := ⟨tab, laws_szSpace_e, fun _ _ => 0, fun _ => false, [], []⟩
noncomputable def c18 : Code := bodyOf Try.f18
noncomputable def laws_toIntS_A : Ann := .seq .nil (.seq .nil (.seq (.seq .nil (.loop laws_toIntS_J0 laws_toIntS_O0 laws_toIntS_B0 .nil)) .nil))
theorem laws_toIntS_r0 (p : laws_toIntS_J0.P) : run laws_toIntS_x (subc [1, 1, 0, 1, 0, 0] c18) .nil (laws_toIntS_J0.S p) (leaf laws_toIntS_J0 laws_toIntS_O0) = laws_toIntS_B0 p := by kernel_rfl
noncomputable def laws_toIntS_D : Ve.Fn := ⟨18, laws_toIntS_a, laws_toIntS_o, laws_toIntS_E, laws_toIntS⟩
theorem laws_toIntS_w : Walk Try.prog laws_toIntS_x laws_toIntS_D Try.f18 c18 22 laws_toIntS_A :=
  ⟨⟨Try.func18, by kernel_rfl, by kernel_rfl, by kernel_rfl, by decide, by kernel_rfl, Nat.le_of_ble_eq_true (by kernel_rfl)⟩, by kernel_rfl, by kernel_rfl, by kernel_rfl, kcast (by kernel_rfl) (⟨laws_toIntS_r0, trivial⟩ : (∀ p, run laws_toIntS_x (subc [1, 1, 0, 1, 0, 0] c18) .nil (laws_toIntS_J0.S p) (leaf laws_toIntS_J0 laws_toIntS_O0) = laws_toIntS_B0 p) ∧ True), by kernel_rfl, fun x y => by kernel_rfl⟩
theorem laws_toIntS_s : laws_toIntS_D.Says Try.prog := laws_toIntS_w.says follows tabOk laws_szSpace_e_ok
noncomputable def laws_toIntS_e : Env := more laws_szSpace_e laws_toIntS_D
theorem laws_toIntS_e_ok : EnvOk Try.prog laws_toIntS_e := more_ok laws_szSpace_e_ok laws_toIntS_s
/-! loop.example/g01128/laws.toIntSS -/
abbrev laws_toIntSS_J0 : Tpl := ⟨[(0, .val (.list (.list I))), (3, .own (.own .shr) (.list I)), (4, .val I)], [], []⟩
abbrev laws_toIntSS_J1 : Tpl := ⟨[(3, .own (.own .shr) (.list I))], [], []⟩
abbrev laws_toIntSS_E : Ve.End := ⟨[⟨2, (.own (.own .shr)), (.list (.list I)), none⟩], []⟩
abbrev laws_toIntSS_a : List ASh := [.val (.list (.list I))]
abbrev laws_toIntSS_o : List OSh := []
abbrev laws_toIntSS_O0 : Out := .one (.ex 0) laws_toIntSS_J1
noncomputable def laws_toIntSS_B0 : laws_toIntSS_J0.P → Option (laws_toIntSS_J0.P ⊕ laws_toIntSS_O0.P)
  | ((a, out, i, ()), ()) => bif (decide (i < (List.length a : Int))) then (guardB (inb i (List.length a)) (match laws_toIntS ((List.getD a (Int.toNat i) ([] : (List Int))), ()) () with | some ((r, ()), ()) => guardB (inb i (List.length out)) (some (.inl ((a, (List.set out (Int.toNat i) r), (w64 (i + (1 : Int))), ()), ()))) | none => none)) else (some (.inr ((out, ()), ())))
noncomputable def laws_toIntSS : argP laws_toIntSS_a → obP (extObs 0 laws_toIntSS_o) → Option laws_toIntSS_E.P
  | (a, ()), () => guardB (decide (0 ≤ (List.length a : Int)) && decide ((List.length a : Int) ≤ (List.length a : Int)) && decide ((List.length a : Int) * 24 ≤ 140737488355328)) (match loopO laws_toIntSS_B0 ((a, (List.replicate (Int.toNat (List.length a : Int)) ([] : (List Int))), (0 : Int), ()), ()) with | some ((out, ()), ()) => some ((out, ()), ()) | none => none)
noncomputable def laws_toIntSS_x : Cx := ⟨tab, laws_toIntS_e, fun _ _ => 0, fun _ => false, [], []⟩
noncomputable def c24 : Code := bodyOf Try.f24
noncomputable def laws_toIntSS_A : Ann := .seq .nil (.seq .nil (.seq (.seq .nil (.loop laws_toIntSS_J0 laws_toIntSS_O0 laws_toIntSS_B0 .nil)) .nil))
theorem laws_toIntSS_r0 (p : laws_toIntSS_J0.P) : run laws_toIntSS_x (subc [1, 1, 0, 1, 0, 0] c24) .nil (laws_toIntSS_J0.S p) (leaf laws_toIntSS_J0 laws_toIntSS_O0) = laws_toIntSS_B0 p := by kernel_rfl
noncomputable def laws_toIntSS_D : Ve.Fn := ⟨24, laws_toIntSS_a, laws_toIntSS_o, laws_toIntSS_E, laws_toIntSS⟩
theorem laws_toIntSS_w : Walk Try.prog laws_toIntSS_x laws_toIntSS_D Try.f24 c24 23 laws_toIntSS_A :=
  ⟨⟨Try.func24, by kernel_rfl, by kernel_rfl, by kernel_rfl, by decide, by kernel_rfl, Nat.le_of_ble_eq_true (by kernel_rfl)⟩, by kernel_rfl, by kernel_rfl, by kernel_rfl, kcast (by kernel_rfl) (⟨laws_toIntSS_r0, trivial⟩ : (∀ p, run laws_toIntSS_x (subc [1, 1, 0, 1, 0, 0] c24) .nil (laws_toIntSS_J0.S p) (leaf laws_toIntSS_J0 laws_toIntSS_O0) = laws_toIntSS_B0 p) ∧ True), by kernel_rfl, fun x y => by kernel_rfl⟩
theorem laws_toIntSS_s : laws_toIntSS_D.Says Try.prog := laws_toIntSS_w.says follows tabOk laws_toIntS_e_ok
noncomputable def laws_toIntSS_e : Env := more laws_toIntS_e laws_toIntSS_D
theorem laws_toIntSS_e_ok : EnvOk Try.prog laws_toIntSS_e := more_ok laws_toIntS_e_ok laws_toIntSS_s
/-! loop.example/g01128/laws.toIntA2 -/
abbrev laws_toIntA2_J0 : Tpl := ⟨[(1, .cst (.prod I I)), (2, .ptr (2, 0)), (3, .ptr (3, 0)), (4, .val I)], [((2, 0), .box .shr (.prod I I)), ((3, 0), .box .shr (.prod I I))], []⟩
abbrev laws_toIntA2_J1 : Tpl := ⟨[(2, .ptr (2, 0)), (3, .ptr (3, 0))], [((2, 0), .box .shr (.prod I I)), ((3, 0), .box .shr (.prod I I))], []⟩
abbrev laws_toIntA2_E : Ve.End := ⟨[⟨2, .shr, (.prod I I), some 71⟩], []⟩
abbrev laws_toIntA2_a : List ASh := [.val (.prod I I)]
abbrev laws_toIntA2_o : List OSh := []
abbrev laws_toIntA2_O0 : Out := .one (.ex 0) laws_toIntA2_J1
noncomputable def laws_toIntA2_B0 : laws_toIntA2_J0.P → Option (laws_toIntA2_J0.P ⊕ laws_toIntA2_O0.P)
  | ((a, i, ()), (t2, out, ())) => bif (decide (i < (2 : Int))) then (guardB (decide (0 ≤ i) && decide (i < 2)) (guardB (decide (0 ≤ i) && decide (i < 2)) (some (.inl ((a, (w64 (i + (1 : Int))), ()), (t2, (bif Nat.beq (Int.toNat i) 0 then ((bif Nat.beq (Int.toNat i) 0 then a.1 else a.2), out.2) else (out.1, (bif Nat.beq (Int.toNat i) 0 then a.1 else a.2))), ())))))) else (some (.inr ((), (t2, out, ()))))
noncomputable def laws_toIntA2 : argP laws_toIntA2_a → obP (extObs 0 laws_toIntA2_o) → Option laws_toIntA2_E.P
  | (a, ()), () => match loopO laws_toIntA2_B0 ((a, (0 : Int), ()), (((0 : Int), (0 : Int)), ((0 : Int), (0 : Int)), ())) with | some ((), (t2, out, ())) => some ((out, ()), ()) | none => none
noncomputable def laws_toIntA2_x : Cx := ⟨tab, laws_toIntSS_e, fun _ _ => 0, fun _ => false, [], [(1, 0)]⟩
noncomputable def c115 : Code := bodyOf Try.f115
noncomputable def laws_toIntA2_A : Ann := .seq .nil (.seq .nil (.seq (.seq .nil (.loop laws_toIntA2_J0 laws_toIntA2_O0 laws_toIntA2_B0 .nil)) .nil))
theorem laws_toIntA2_r0 (p : laws_toIntA2_J0.P) : run laws_toIntA2_x (subc [1, 1, 0, 1, 0, 0] c115) .nil (laws_toIntA2_J0.S p) (leaf laws_toIntA2_J0 laws_toIntA2_O0) = laws_toIntA2_B0 p := by kernel_rfl
noncomputable def laws_toIntA2_D : Ve.Fn := ⟨115, laws_toIntA2_a, laws_toIntA2_o, laws_toIntA2_E, laws_toIntA2⟩
theorem laws_toIntA2_w : Walk Try.prog laws_toIntA2_x laws_toIntA2_D Try.f115 c115 15 laws_toIntA2_A :=
  ⟨⟨Try.func115, by kernel_rfl, by kernel_rfl, by kernel_rfl, by decide, by kernel_rfl, Nat.le_of_ble_eq_true (by kernel_rfl)⟩, by kernel_rfl, by kernel_rfl, by kernel_rfl, kcast (by kernel_rfl) (⟨laws_toIntA2_r0, trivial⟩ : (∀ p, run laws_toIntA2_x (subc [1, 1, 0, 1, 0, 0] c115) .nil (laws_toIntA2_J0.S p) (leaf laws_toIntA2_J0 laws_toIntA2_O0) = laws_toIntA2_B0 p) ∧ True), by kernel_rfl, fun x y => by kernel_rfl⟩
theorem laws_toIntA2_s : laws_toIntA2_D.Says Try.prog := laws_toIntA2_w.says follows tabOk laws_toIntSS_e_ok
noncomputable def laws_toIntA2_e : Env := more laws_toIntSS_e laws_toIntA2_D
theorem laws_toIntA2_e_ok : EnvOk Try.prog laws_toIntA2_e := more_ok laws_toIntSS_e_ok laws_toIntA2_s
/-! loop.example/g01128/laws.toIntA2S -/
abbrev laws_toIntA2S_J0 : Tpl := ⟨[(0, .val (.list (.prod I I))), (3, .own .shr (.prod I I)), (4, .val I)], [], []⟩
abbrev laws_toIntA2S_J1 : Tpl := ⟨[(3, .own .shr (.prod I I))], [], []⟩
abbrev laws_toIntA2S_E : Ve.End := ⟨[⟨2, (.own .shr), (.list (.prod I I)), none⟩], []⟩
abbrev laws_toIntA2S_a : List ASh := [.val (.list (.prod I I))]
abbrev laws_toIntA2S_o : List OSh := []
abbrev laws_toIntA2S_O0 : Out := .one (.ex 0) laws_toIntA2S_J1
noncomputable def laws_toIntA2S_B0 : laws_toIntA2S_J0.P → Option (laws_toIntA2S_J0.P ⊕ laws_toIntA2S_O0.P)
  | ((a, out, i, ()), ()) => bif (decide (i < (List.length a : Int))) then (guardB (inb i (List.length a)) (match laws_toIntA2 ((List.getD a (Int.toNat i) ((0 : Int), (0 : Int))), ()) () with | some ((r, ()), ()) => guardB (inb i (List.length out)) (some (.inl ((a, (List.set out (Int.toNat i) r), (w64 (i + (1 : Int))), ()), ()))) | none => none)) else (some (.inr ((out, ()), ())))
noncomputable def laws_toIntA2S : argP laws_toIntA2S_a → obP (extObs 0 laws_toIntA2S_o) → Option laws_toIntA2S_E.P
  | (a, ()), () => guardB (decide (0 ≤ (List.length a : Int)) && decide ((List.length a : Int) ≤ (List.length a : Int)) && decide ((List.length a : Int) * 16 ≤ 140737488355328)) (match loopO laws_toIntA2S_B0 ((a, (List.replicate (Int.toNat (List.length a : Int)) ((0 : Int), (0 : Int))), (0 : Int), ()), ()) with | some ((out, ()), ()) => some ((out, ()), ()) | none => none)
noncomputable def laws_toIntA2S_x : Cx := ⟨tab, laws_toIntA2_e, fun _ _ => 0, fun _ => false, [(20, 0), (20, 1), (20, 2), (20, 3)], []⟩
noncomputable def c55 : Code := bodyOf Try.f55
noncomputable def laws_toIntA2S_A : Ann := .seq .nil (.seq .nil (.seq (.seq .nil (.loop laws_toIntA2S_J0 laws_toIntA2S_O0 laws_toIntA2S_B0 .nil)) .nil))
theorem laws_toIntA2S_r0 (p : laws_toIntA2S_J0.P) : run laws_toIntA2S_x (subc [1, 1, 0, 1, 0, 0] c55) .nil (laws_toIntA2S_J0.S p) (leaf laws_toIntA2S_J0 laws_toIntA2S_O0) = laws_toIntA2S_B0 p := by kernel_rfl
noncomputable def laws_toIntA2S_D : Ve.Fn := ⟨55, laws_toIntA2S_a, laws_toIntA2S_o, laws_toIntA2S_E, laws_toIntA2S⟩
theorem laws_toIntA2S_w : Walk Try.prog laws_toIntA2S_x laws_toIntA2S_D Try.f55 c55 23 laws_toIntA2S_A :=
  ⟨⟨Try.func55, by kernel_rfl, by kernel_rfl, by kernel_rfl, by decide, by kernel_rfl, Nat.le_of_ble_eq_true (by kernel_rfl)⟩, by kernel_rfl, by kernel_rfl, by kernel_rfl, kcast (by kernel_rfl) (⟨laws_toIntA2S_r0, trivial⟩ : (∀ p, run laws_toIntA2S_x (subc [1, 1, 0, 1, 0, 0] c55) .nil (laws_toIntA2S_J0.S p) (leaf laws_toIntA2S_J0 laws_toIntA2S_O0) = laws_toIntA2S_B0 p) ∧ True), by kernel_rfl, fun x y => by kernel_rfl⟩
theorem laws_toIntA2S_s : laws_toIntA2S_D.Says Try.prog := laws_toIntA2S_w.says follows tabOk laws_toIntA2_e_ok
noncomputable def laws_toIntA2S_e : Env := more laws_toIntA2_e laws_toIntA2S_D
theorem laws_toIntA2S_e_ok : EnvOk Try.prog laws_toIntA2S_e := more_ok laws_toIntA2_e_ok laws_toIntA2S_s
/-! loop.example/g01128/laws.toSpace -/
abbrev laws_toSpace_E : Ve.End := ⟨[⟨2, (.prod (.own (.own .shr)) (.own .shr)), (.prod (.list (.list I)) (.list (.prod I I))), some 30⟩], []⟩
abbrev laws_toSpace_a : List ASh := [.val (.prod (.list (.list I)) (.list (.prod I I)))]
abbrev laws_toSpace_o : List OSh := []
noncomputable def laws_toSpace : argP laws_toSpace_a → obP (extObs 0 laws_toSpace_o) → Option laws_toSpace_E.P
  | (a, ()), () => match laws_toIntSS (a.1, ()) () with | some ((r, ()), ()) => (match laws_toIntA2S (a.2, ()) () with | some ((r2, ()), ()) => some (((r, r2), ()), ()) | none => none) | none => none
noncomputable def laws_toSpace_x : Cx := ⟨tab, laws_toIntA2S_e, fun _ _ => 0, fun _ => false, [], [(1, 0)]⟩
noncomputable def c17 : Code := bodyOf Try.f17
noncomputable def laws_toSpace_A : Ann := .nil
noncomputable def laws_toSpace_D : Ve.Fn := ⟨17, laws_toSpace_a, laws_toSpace_o, laws_toSpace_E, laws_toSpace⟩
theorem laws_toSpace_w : Walk Try.prog laws_toSpace_x laws_toSpace_D Try.f17 c17 13 laws_toSpace_A :=
  ⟨⟨Try.func17, by kernel_rfl, by kernel_rfl, by kernel_rfl, by decide, by kernel_rfl, Nat.le_of_ble_eq_true (by kernel_rfl)⟩, by kernel_rfl, by kernel_rfl, by kernel_rfl, kcast (by kernel_rfl) trivial, by kernel_rfl, fun x y => by kernel_rfl⟩
theorem laws_toSpace_s : laws_toSpace_D.Says Try.prog := laws_toSpace_w.says follows tabOk laws_toIntA2S_e_ok
noncomputable def laws_toSpace_e : Env := more laws_toIntA2S_e laws_toSpace_D
theorem laws_toSpace_e_ok : EnvOk Try.prog laws_toSpace_e := more_ok laws_toIntA2S_e_ok laws_toSpace_s
/-! loop.example/g01128/spec.l1In -/
abbrev spec_l1In_E : Ve.End := ⟨[⟨6, .shr, .bool, none⟩], []⟩
abbrev spec_l1In_a : List ASh := [.val I, .val I, .val I]
abbrev spec_l1In_o : List OSh := []
noncomputable def spec_l1In : argP spec_l1In_a → obP (extObs 0 spec_l1In_o) → Option spec_l1In_E.P
  | (x, a, b, ()), () => bif (decide (a ≤ x)) then (some (((decide (x ≤ b)), ()), ())) else (some ((false, ()), ()))
noncomputable def spec_l1In_x : Cx := ⟨tab, laws_toSpace_e, fun _ _ => 0, fun _ => false, [], []⟩
noncomputable def c63 : Code := bodyOf Try.f63
noncomputable def spec_l1In_A : Ann := .nil
noncomputable def spec_l1In_D : Ve.Fn := ⟨63, spec_l1In_a, spec_l1In_o, spec_l1In_E, spec_l1In⟩
theorem spec_l1In_w : Walk Try.prog spec_l1In_x spec_l1In_D Try.f63 c63 15 spec_l1In_A :=
  ⟨⟨Try.func63, by kernel_rfl, by kernel_rfl, by kernel_rfl, by decide, by kernel_rfl, Nat.le_of_ble_eq_true (by kernel_rfl)⟩, by kernel_rfl, by kernel_rfl, by kernel_rfl, kcast (by kernel_rfl) trivial, by kernel_rfl, fun x y => by kernel_rfl⟩
theorem spec_l1In_s : spec_l1In_D.Says Try.prog := spec_l1In_w.says follows tabOk laws_toSpace_e_ok
noncomputable def spec_l1In_e : Env := more laws_toSpace_e spec_l1In_D
theorem spec_l1In_e_ok : EnvOk Try.prog spec_l1In_e := more_ok laws_toSpace_e_ok spec_l1In_s
/-! loop.example/g01128/spec.l2State -/
abbrev spec_l2State_J0 : Tpl := ⟨[(0, .val (.list I)), (3, .val I)], [], []⟩
abbrev spec_l2State_J1 : Tpl := ⟨[(2, .val .bool)], [], []⟩
abbrev spec_l2State_J2 : Tpl := ⟨[(0, .val (.list I))], [], []⟩
abbrev spec_l2State_E : Ve.End := ⟨[⟨2, .shr, .bool, none⟩], []⟩
abbrev spec_l2State_a : List ASh := [.val (.list I)]
abbrev spec_l2State_o : List OSh := []
abbrev spec_l2State_O0 : Out := .or .ret spec_l2State_J1 (.one (.ex 0) spec_l2State_J2)
noncomputable def spec_l2State_B0 : spec_l2State_J0.P → Option (spec_l2State_J0.P ⊕ spec_l2State_O0.P)
  | ((state, i, ()), ()) => bif (decide (i < (List.length state : Int))) then (guardB (inb i (List.length state)) (match spec_l1In ((List.getD state (Int.toNat i) (0 : Int)), (-99 : Int), (99 : Int), ()) () with | some ((r, ()), ()) => (bif (!r) then (some (.inr (.inl ((false, ()), ())))) else (some (.inl ((state, (w64 (i + (1 : Int))), ()), ())))) | none => none)) else (some (.inr (.inr ((state, ()), ()))))
noncomputable def spec_l2State : argP spec_l2State_a → obP (extObs 0 spec_l2State_o) → Option spec_l2State_E.P
  | (state, ()), () => match loopO spec_l2State_B0 ((state, (0 : Int), ()), ()) with | some (.inl ((t2, ()), ())) => some ((t2, ()), ()) | some (.inr ((state2, ()), ())) => some (((decide ((List.length state2 : Int) ≤ (24 : Int))), ()), ()) | none => none
noncomputable def spec_l2State_x : Cx := ⟨tab, spec_l1In_e, fun _ _ => 0, fun _ => false, [(14, 0), (14, 1), (14, 2), (14, 3)], []⟩
noncomputable def c112 : Code := bodyOf Try.f112
noncomputable def spec_l2State_A : Ann := .seq .nil (.seq (.seq .nil (.loop spec_l2State_J0 spec_l2State_O0 spec_l2State_B0 .nil)) .nil)
theorem spec_l2State_r0 (p : spec_l2State_J0.P) : run spec_l2State_x (subc [1, 0, 1, 0, 0] c112) .nil (spec_l2State_J0.S p) (leaf spec_l2State_J0 spec_l2State_O0) = spec_l2State_B0 p := by kernel_rfl
noncomputable def spec_l2State_D : Ve.Fn := ⟨112, spec_l2State_a, spec_l2State_o, spec_l2State_E, spec_l2State⟩
theorem spec_l2State_w : Walk Try.prog spec_l2State_x spec_l2State_D Try.f112 c112 19 spec_l2State_A :=
  ⟨⟨Try.func112, by kernel_rfl, by kernel_rfl, by kernel_rfl, by decide, by kernel_rfl, Nat.le_of_ble_eq_true (by kernel_rfl)⟩, by kernel_rfl, by kernel_rfl, by kernel_rfl, kcast (by kernel_rfl) (⟨spec_l2State_r0, trivial⟩ : (∀ p, run spec_l2State_x (subc [1, 0, 1, 0, 0] c112) .nil (spec_l2State_J0.S p) (leaf spec_l2State_J0 spec_l2State_O0) = spec_l2State_B0 p) ∧ True), by kernel_rfl, fun x y => by kernel_rfl⟩
theorem spec_l2State_s : spec_l2State_D.Says Try.prog := spec_l2State_w.says follows tabOk spec_l1In_e_ok
noncomputable def spec_l2State_e : Env := more spec_l1In_e spec_l2State_D
theorem spec_l2State_e_ok : EnvOk Try.prog spec_l2State_e := more_ok spec_l1In_e_ok spec_l2State_s
/-! loop.example/g01128/spec.l2Before -/
abbrev spec_l2Before_J0 : Tpl := ⟨[(0, .val (.list I)), (1, .val (.list I)), (5, .val I)], [], []⟩
abbrev spec_l2Before_J1 : Tpl := ⟨[(4, .val .bool)], [], []⟩
abbrev spec_l2Before_J2 : Tpl := ⟨[(0, .val (.list I)), (1, .val (.list I))], [], []⟩
abbrev spec_l2Before_E : Ve.End := ⟨[⟨4, .shr, .bool, none⟩], []⟩
abbrev spec_l2Before_a : List ASh := [.val (.list I), .val (.list I)]
abbrev spec_l2Before_o : List OSh := []
abbrev spec_l2Before_O0 : Out := .or .ret spec_l2Before_J1 (.one (.ex 0) spec_l2Before_J2)
noncomputable def spec_l2Before_B0 : spec_l2Before_J0.P → Option (spec_l2Before_J0.P ⊕ spec_l2Before_O0.P)
  | ((a, b, i, ()), ()) => bif (decide (i < (List.length a : Int))) then (bif (decide (i < (List.length b : Int))) then (guardB (inb i (List.length a)) (guardB (inb i (List.length b)) (bif ((List.getD a (Int.toNat i) (0 : Int)) != (List.getD b (Int.toNat i) (0 : Int))) then (guardB (inb i (List.length a)) (guardB (inb i (List.length b)) (some (.inr (.inl (((decide ((List.getD a (Int.toNat i) (0 : Int)) < (List.getD b (Int.toNat i) (0 : Int)))), ()), ())))))) else (some (.inl ((a, b, (w64 (i + (1 : Int))), ()), ())))))) else (some (.inr (.inr ((a, b, ()), ()))))) else (some (.inr (.inr ((a, b, ()), ()))))
noncomputable def spec_l2Before : argP spec_l2Before_a → obP (extObs 0 spec_l2Before_o) → Option spec_l2Before_E.P
  | (a, b, ()), () => match loopO spec_l2Before_B0 ((a, b, (0 : Int), ()), ()) with | some (.inl ((t4, ()), ())) => some ((t4, ()), ()) | some (.inr ((a2, b2, ()), ())) => some (((decide ((List.length a2 : Int) < (List.length b2 : Int))), ()), ()) | none => none
noncomputable def spec_l2Before_x : Cx := ⟨tab, spec_l2State_e, fun _ _ => 0, fun _ => false, [], []⟩
noncomputable def c113 : Code := bodyOf Try.f113
noncomputable def spec_l2Before_A : Ann := .seq .nil (.seq (.seq .nil (.loop spec_l2Before_J0 spec_l2Before_O0 spec_l2Before_B0 (.seq .nil (.seq (.seq (.draw [(0, .flo), (1, .flo), (2, .flo), (3, .flo), (4, .flo), (5, .flo), (6, .flo), (7, .flo), (8, .flo)]) (.seq (.seq (.draw [(0, .flo), (1, .flo), (2, .flo), (3, .flo), (4, .flo), (5, .flo), (6, .flo), (7, .flo), (8, .flo), (9, .flo)]) .nil) .nil)) .nil)))) .nil)
theorem spec_l2Before_r0 (p : spec_l2Before_J0.P) : run spec_l2Before_x (subc [1, 0, 1, 0, 0] c113) (.seq .nil (.seq (.seq (.draw [(0, .flo), (1, .flo), (2, .flo), (3, .flo), (4, .flo), (5, .flo), (6, .flo), (7, .flo), (8, .flo)]) (.seq (.seq (.draw [(0, .flo), (1, .flo), (2, .flo), (3, .flo), (4, .flo), (5, .flo), (6, .flo), (7, .flo), (8, .flo), (9, .flo)]) .nil) .nil)) .nil)) (spec_l2Before_J0.S p) (leaf spec_l2Before_J0 spec_l2Before_O0) = spec_l2Before_B0 p := by kernel_rfl
noncomputable def spec_l2Before_D : Ve.Fn := ⟨113, spec_l2Before_a, spec_l2Before_o, spec_l2Before_E, spec_l2Before⟩
theorem spec_l2Before_w : Walk Try.prog spec_l2Before_x spec_l2Before_D Try.f113 c113 41 spec_l2Before_A :=
  ⟨⟨Try.func113, by kernel_rfl, by kernel_rfl, by kernel_rfl, by decide, by kernel_rfl, Nat.le_of_ble_eq_true (by kernel_rfl)⟩, by kernel_rfl, by kernel_rfl, by kernel_rfl, kcast (by kernel_rfl) (⟨spec_l2Before_r0, trivial⟩ : (∀ p, run spec_l2Before_x (subc [1, 0, 1, 0, 0] c113) (.seq .nil (.seq (.seq (.draw [(0, .flo), (1, .flo), (2, .flo), (3, .flo), (4, .flo), (5, .flo), (6, .flo), (7, .flo), (8, .flo)]) (.seq (.seq (.draw [(0, .flo), (1, .flo), (2, .flo), (3, .flo), (4, .flo), (5, .flo), (6, .flo), (7, .flo), (8, .flo), (9, .flo)]) .nil) .nil)) .nil)) (spec_l2Before_J0.S p) (leaf spec_l2Before_J0 spec_l2Before_O0) = spec_l2Before_B0 p) ∧ True), by kernel_rfl, fun x y => by kernel_rfl⟩
theorem spec_l2Before_s : spec_l2Before_D.Says Try.prog := spec_l2Before_w.says follows tabOk spec_l2State_e_ok
noncomputable def spec_l2Before_e : Env := more spec_l2State_e spec_l2Before_D
theorem spec_l2Before_e_ok : EnvOk Try.prog spec_l2Before_e := more_ok spec_l2State_e_ok spec_l2Before_s
/-! loop.example/g01128/spec.l2Edge -/
abbrev spec_l2Edge_E : Ve.End := ⟨[⟨4, .shr, .bool, none⟩], []⟩
abbrev spec_l2Edge_a : List ASh := [.val (.prod I I), .val (.prod I I)]
abbrev spec_l2Edge_o : List OSh := []
noncomputable def spec_l2Edge : argP spec_l2Edge_a → obP (extObs 0 spec_l2Edge_o) → Option spec_l2Edge_E.P
  | (a, b, ()), () => bif (decide (a.1 < b.1)) then (some ((true, ()), ())) else (bif (a.1 == b.1) then (some (((decide (a.2 < b.2)), ()), ())) else (some ((false, ()), ())))
noncomputable def spec_l2Edge_x : Cx := ⟨tab, spec_l2Before_e, fun _ _ => 0, fun _ => false, [], [(2, 0), (3, 0)]⟩
noncomputable def c128 : Code := bodyOf Try.f128
noncomputable def spec_l2Edge_A : Ann := .nil
noncomputable def spec_l2Edge_D : Ve.Fn := ⟨128, spec_l2Edge_a, spec_l2Edge_o, spec_l2Edge_E, spec_l2Edge⟩
theorem spec_l2Edge_w : Walk Try.prog spec_l2Edge_x spec_l2Edge_D Try.f128 c128 24 spec_l2Edge_A :=
  ⟨⟨Try.func128, by kernel_rfl, by kernel_rfl, by kernel_rfl, by decide, by kernel_rfl, Nat.le_of_ble_eq_true (by kernel_rfl)⟩, by kernel_rfl, by kernel_rfl, by kernel_rfl, kcast (by kernel_rfl) trivial, by kernel_rfl, fun x y => by kernel_rfl⟩
theorem spec_l2Edge_s : spec_l2Edge_D.Says Try.prog := spec_l2Edge_w.says follows tabOk spec_l2Before_e_ok
noncomputable def spec_l2Edge_e : Env := more spec_l2Before_e spec_l2Edge_D
theorem spec_l2Edge_e_ok : EnvOk Try.prog spec_l2Edge_e := more_ok spec_l2Before_e_ok spec_l2Edge_s
/-! loop.example/g01128/spec.l2Pairs -/
abbrev spec_l2Pairs_J0 : Tpl := ⟨[(0, .val (.list (.prod I I))), (1, .val I), (5, .val I)], [], []⟩
abbrev spec_l2Pairs_J1 : Tpl := ⟨[(4, .val .bool)], [], []⟩
abbrev spec_l2Pairs_J2 : Tpl := ⟨[], [], []⟩
abbrev spec_l2Pairs_E : Ve.End := ⟨[⟨4, .shr, .bool, none⟩], []⟩
abbrev spec_l2Pairs_a : List ASh := [.val (.list (.prod I I)), .val I]
abbrev spec_l2Pairs_o : List OSh := []
abbrev spec_l2Pairs_O0 : Out := .or .ret spec_l2Pairs_J1 (.one (.ex 0) spec_l2Pairs_J2)
noncomputable def spec_l2Pairs_B0 : spec_l2Pairs_J0.P → Option (spec_l2Pairs_J0.P ⊕ spec_l2Pairs_O0.P)
  | ((pairs, n, i, ()), ()) => bif (decide (i < (List.length pairs : Int))) then (guardB (inb i (List.length pairs)) (match spec_l1In ((List.getD pairs (Int.toNat i) ((0 : Int), (0 : Int))).1, (0 : Int), (w64 (n - (1 : Int))), ()) () with | some ((r, ()), ()) => (bif (!r) then (some (.inr (.inl ((false, ()), ())))) else (match spec_l1In ((List.getD pairs (Int.toNat i) ((0 : Int), (0 : Int))).2, (0 : Int), (w64 (n - (1 : Int))), ()) () with | some ((r2, ()), ()) => (bif (!r2) then (some (.inr (.inl ((false, ()), ())))) else (bif (decide (((List.getD pairs (Int.toNat i) ((0 : Int), (0 : Int))).2) ≤ ((List.getD pairs (Int.toNat i) ((0 : Int), (0 : Int))).1))) then (some (.inr (.inl ((false, ()), ())))) else (bif (decide ((0 : Int) < i)) then (guardB (inb (w64 (i - (1 : Int))) (List.length pairs)) (match spec_l2Edge ((List.getD pairs (Int.toNat (w64 (i - (1 : Int)))) ((0 : Int), (0 : Int))), (List.getD pairs (Int.toNat i) ((0 : Int), (0 : Int))), ()) () with | some ((r3, ()), ()) => (bif (!r3) then (some (.inr (.inl ((false, ()), ())))) else (some (.inl ((pairs, n, (w64 (i + (1 : Int))), ()), ())))) | none => none)) else (some (.inl ((pairs, n, (w64 (i + (1 : Int))), ()), ())))))) | none => none)) | none => none)) else (some (.inr (.inr ((), ()))))
noncomputable def spec_l2Pairs : argP spec_l2Pairs_a → obP (extObs 0 spec_l2Pairs_o) → Option spec_l2Pairs_E.P
  | (pairs, n, ()), () => match loopO spec_l2Pairs_B0 ((pairs, n, (0 : Int), ()), ()) with | some (.inl ((t4, ()), ())) => some ((t4, ()), ()) | some (.inr ((), ())) => some ((true, ()), ()) | none => none
noncomputable def spec_l2Pairs_x : Cx := ⟨tab, spec_l2Edge_e, fun _ _ => 0, fun _ => false, [(21, 0), (21, 1), (21, 2), (21, 3), (28, 0), (28, 1), (28, 2), (28, 3), (48, 0), (48, 1), (48, 2), (48, 3)], [(6, 0)]⟩
noncomputable def c114 : Code := bodyOf Try.f114
noncomputable def spec_l2Pairs_A : Ann := .seq .nil (.seq (.seq .nil (.loop spec_l2Pairs_J0 spec_l2Pairs_O0 spec_l2Pairs_B0 (.seq .nil (.seq (.seq .nil (.seq (.draw [(0, .flo), (1, .flo), (2, .flo), (3, .flo), (4, .sole), (5, .flo), (6, .flo), (7, .flo), (9, .flo), (10, .flo), (8, .qui), (11, .sole), (12, .flo), (13, .flo), (14, .flo), (15, .flo), (17, .flo), (16, .qui), (18, .qui), (19, .flo), (20, .flo), (21, .flo), (22, .flo), (23, .flo), (24, .flo), (25, .flo), (26, .flo), (27, .flo), (28, .flo), (29, .qui), (30, .qui), (31, .sole), (32, .flo), (33, .flo), (34, .flo)]) .nil)) .nil)))) .nil)
theorem spec_l2Pairs_r0 (p : spec_l2Pairs_J0.P) : run spec_l2Pairs_x (subc [1, 0, 1, 0, 0] c114) (.seq .nil (.seq (.seq .nil (.seq (.draw [(0, .flo), (1, .flo), (2, .flo), (3, .flo), (4, .sole), (5, .flo), (6, .flo), (7, .flo), (9, .flo), (10, .flo), (8, .qui), (11, .sole), (12, .flo), (13, .flo), (14, .flo), (15, .flo), (17, .flo), (16, .qui), (18, .qui), (19, .flo), (20, .flo), (21, .flo), (22, .flo), (23, .flo), (24, .flo), (25, .flo), (26, .flo), (27, .flo), (28, .flo), (29, .qui), (30, .qui), (31, .sole), (32, .flo), (33, .flo), (34, .flo)]) .nil)) .nil)) (spec_l2Pairs_J0.S p) (leaf spec_l2Pairs_J0 spec_l2Pairs_O0) = spec_l2Pairs_B0 p := by kernel_rfl
noncomputable def spec_l2Pairs_D : Ve.Fn := ⟨114, spec_l2Pairs_a, spec_l2Pairs_o, spec_l2Pairs_E, spec_l2Pairs⟩
theorem spec_l2Pairs_w : Walk Try.prog spec_l2Pairs_x spec_l2Pairs_D Try.f114 c114 52 spec_l2Pairs_A :=
  ⟨⟨Try.func114, by kernel_rfl, by kernel_rfl, by kernel_rfl, by decide, by kernel_rfl, Nat.le_of_ble_eq_true (by kernel_rfl)⟩, by kernel_rfl, by kernel_rfl, by kernel_rfl, kcast (by kernel_rfl) (⟨spec_l2Pairs_r0, trivial⟩ : (∀ p, run spec_l2Pairs_x (subc [1, 0, 1, 0, 0] c114) (.seq .nil (.seq (.seq .nil (.seq (.draw [(0, .flo), (1, .flo), (2, .flo), (3, .flo), (4, .sole), (5, .flo), (6, .flo), (7, .flo), (9, .flo), (10, .flo), (8, .qui), (11, .sole), (12, .flo), (13, .flo), (14, .flo), (15, .flo), (17, .flo), (16, .qui), (18, .qui), (19, .flo), (20, .flo), (21, .flo), (22, .flo), (23, .flo), (24, .flo), (25, .flo), (26, .flo), (27, .flo), (28, .flo), (29, .qui), (30, .qui), (31, .sole), (32, .flo), (33, .flo), (34, .flo)]) .nil)) .nil)) (spec_l2Pairs_J0.S p) (leaf spec_l2Pairs_J0 spec_l2Pairs_O0) = spec_l2Pairs_B0 p) ∧ True), by kernel_rfl, fun x y => by kernel_rfl⟩
theorem spec_l2Pairs_s : spec_l2Pairs_D.Says Try.prog := spec_l2Pairs_w.says follows tabOk spec_l2Edge_e_ok
noncomputable def spec_l2Pairs_e : Env := more spec_l2Edge_e spec_l2Pairs_D
theorem spec_l2Pairs_e_ok : EnvOk Try.prog spec_l2Pairs_e := more_ok spec_l2Edge_e_ok spec_l2Pairs_s
/-! loop.example/g01128/spec.l2Space -/
abbrev spec_l2Space_J0 : Tpl := ⟨[(1, .cst (.prod (.list (.list I)) (.list (.prod I I)))), (3, .val I)], [], []⟩
abbrev spec_l2Space_J1 : Tpl := ⟨[(2, .val .bool)], [], []⟩
abbrev spec_l2Space_J2 : Tpl := ⟨[(1, .cst (.prod (.list (.list I)) (.list (.prod I I))))], [], []⟩
abbrev spec_l2Space_E : Ve.End := ⟨[⟨2, .shr, .bool, none⟩], []⟩
abbrev spec_l2Space_a : List ASh := [.val (.prod (.list (.list I)) (.list (.prod I I)))]
abbrev spec_l2Space_o : List OSh := []
abbrev spec_l2Space_O0 : Out := .or .ret spec_l2Space_J1 (.one (.ex 0) spec_l2Space_J2)
noncomputable def spec_l2Space_B0 : spec_l2Space_J0.P → Option (spec_l2Space_J0.P ⊕ spec_l2Space_O0.P)
  | ((x, i, ()), ()) => bif (decide (i < (List.length x.1 : Int))) then (guardB (inb i (List.length x.1)) (match spec_l2State ((List.getD x.1 (Int.toNat i) ([] : (List Int))), ()) () with | some ((r, ()), ()) => (bif (!r) then (some (.inr (.inl ((false, ()), ())))) else (bif (decide ((0 : Int) < i)) then (guardB (inb (w64 (i - (1 : Int))) (List.length x.1)) (guardB (inb i (List.length x.1)) (match spec_l2Before ((List.getD x.1 (Int.toNat (w64 (i - (1 : Int)))) ([] : (List Int))), (List.getD x.1 (Int.toNat i) ([] : (List Int))), ()) () with | some ((r2, ()), ()) => (bif (!r2) then (some (.inr (.inl ((false, ()), ())))) else (some (.inl ((x, (w64 (i + (1 : Int))), ()), ())))) | none => none))) else (some (.inl ((x, (w64 (i + (1 : Int))), ()), ()))))) | none => none)) else (some (.inr (.inr ((x, ()), ()))))
noncomputable def spec_l2Space : argP spec_l2Space_a → obP (extObs 0 spec_l2Space_o) → Option spec_l2Space_E.P
  | (x, ()), () => bif (decide ((300 : Int) < (List.length x.1 : Int))) then (some ((false, ()), ())) else (bif (decide ((6000 : Int) < (List.length x.2 : Int))) then (some ((false, ()), ())) else (match loopO spec_l2Space_B0 ((x, (0 : Int), ()), ()) with | some (.inl ((t2, ()), ())) => some ((t2, ()), ()) | some (.inr ((x2, ()), ())) => (match spec_l2Pairs (x2.2, (List.length x2.1 : Int), ()) () with | some ((r, ()), ()) => some ((r, ()), ()) | none => none) | none => none))
noncomputable def spec_l2Space_x : Cx := ⟨tab, spec_l2Pairs_e, fun _ _ => 0, fun _ => false, [(26, 0), (26, 1), (26, 2), (26, 3), (43, 0), (43, 1), (43, 2), (43, 3), (52, 0), (52, 1), (52, 2), (52, 3)], [(1, 0)]⟩
noncomputable def c53 : Code := bodyOf Try.f53
noncomputable def spec_l2Space_A : Ann := .seq .nil (.seq .nil (.seq (.seq .nil (.loop spec_l2Space_J0 spec_l2Space_O0 spec_l2Space_B0 (.seq .nil (.seq (.seq (.draw [(0, .flo), (1, .flo), (2, .flo), (3, .flo), (4, .flo), (5, .sole), (6, .flo), (7, .flo), (8, .flo), (9, .flo), (10, .flo), (11, .flo), (13, .flo), (14, .flo), (17, .flo), (19, .flo), (12, .qui), (15, .flo), (16, .qui), (18, .qui), (20, .flo), (21, .qui), (22, .sole), (23, .flo), (24, .flo), (25, .flo)]) .nil) .nil)))) .nil))
theorem spec_l2Space_r0 (p : spec_l2Space_J0.P) : run spec_l2Space_x (subc [1, 1, 0, 1, 0, 0] c53) (.seq .nil (.seq (.seq (.draw [(0, .flo), (1, .flo), (2, .flo), (3, .flo), (4, .flo), (5, .sole), (6, .flo), (7, .flo), (8, .flo), (9, .flo), (10, .flo), (11, .flo), (13, .flo), (14, .flo), (17, .flo), (19, .flo), (12, .qui), (15, .flo), (16, .qui), (18, .qui), (20, .flo), (21, .qui), (22, .sole), (23, .flo), (24, .flo), (25, .flo)]) .nil) .nil)) (spec_l2Space_J0.S p) (leaf spec_l2Space_J0 spec_l2Space_O0) = spec_l2Space_B0 p := by kernel_rfl
noncomputable def spec_l2Space_D : Ve.Fn := ⟨53, spec_l2Space_a, spec_l2Space_o, spec_l2Space_E, spec_l2Space⟩
theorem spec_l2Space_w : Walk Try.prog spec_l2Space_x spec_l2Space_D Try.f53 c53 53 spec_l2Space_A :=
  ⟨⟨Try.func53, by kernel_rfl, by kernel_rfl, by kernel_rfl, by decide, by kernel_rfl, Nat.le_of_ble_eq_true (by kernel_rfl)⟩, by kernel_rfl, by kernel_rfl, by kernel_rfl, kcast (by kernel_rfl) (⟨spec_l2Space_r0, trivial⟩ : (∀ p, run spec_l2Space_x (subc [1, 1, 0, 1, 0, 0] c53) (.seq .nil (.seq (.seq (.draw [(0, .flo), (1, .flo), (2, .flo), (3, .flo), (4, .flo), (5, .sole), (6, .flo), (7, .flo), (8, .flo), (9, .flo), (10, .flo), (11, .flo), (13, .flo), (14, .flo), (17, .flo), (19, .flo), (12, .qui), (15, .flo), (16, .qui), (18, .qui), (20, .flo), (21, .qui), (22, .sole), (23, .flo), (24, .flo), (25, .flo)]) .nil) .nil)) (spec_l2Space_J0.S p) (leaf spec_l2Space_J0 spec_l2Space_O0) = spec_l2Space_B0 p) ∧ True), by kernel_rfl, fun x y => by kernel_rfl⟩
theorem spec_l2Space_s : spec_l2Space_D.Says Try.prog := spec_l2Space_w.says follows tabOk spec_l2Pairs_e_ok
noncomputable def spec_l2Space_e : Env := more spec_l2Pairs_e spec_l2Space_D
theorem spec_l2Space_e_ok : EnvOk Try.prog spec_l2Space_e := more_ok spec_l2Pairs_e_ok spec_l2Space_s
/-! loop.example/g01128/spec.l11Numbers -/
abbrev spec_l11Numbers_J0 : Tpl := ⟨[(0, .val (.list I)), (1, .val I), (5, .val I)], [], []⟩
abbrev spec_l11Numbers_J1 : Tpl := ⟨[(4, .val .bool)], [], []⟩
abbrev spec_l11Numbers_J2 : Tpl := ⟨[(0, .val (.list I)), (1, .val I)], [], []⟩
abbrev spec_l11Numbers_E : Ve.End := ⟨[⟨4, .shr, .bool, none⟩], []⟩
abbrev spec_l11Numbers_a : List ASh := [.val (.list I), .val I]
abbrev spec_l11Numbers_o : List OSh := []
abbrev spec_l11Numbers_O0 : Out := .or .ret spec_l11Numbers_J1 (.one (.ex 0) spec_l11Numbers_J2)
noncomputable def spec_l11Numbers_B0 : spec_l11Numbers_J0.P → Option (spec_l11Numbers_J0.P ⊕ spec_l11Numbers_O0.P)
  | ((list, n, i, ()), ()) => bif (decide (i < (List.length list : Int))) then (guardB (inb i (List.length list)) (match spec_l1In ((List.getD list (Int.toNat i) (0 : Int)), (0 : Int), (999 : Int), ()) () with | some ((r, ()), ()) => (bif (!r) then (some (.inr (.inl ((false, ()), ())))) else (some (.inl ((list, n, (w64 (i + (1 : Int))), ()), ())))) | none => none)) else (some (.inr (.inr ((list, n, ()), ()))))
noncomputable def spec_l11Numbers : argP spec_l11Numbers_a → obP (extObs 0 spec_l11Numbers_o) → Option spec_l11Numbers_E.P
  | (list, n, ()), () => match loopO spec_l11Numbers_B0 ((list, n, (0 : Int), ()), ()) with | some (.inl ((t4, ()), ())) => some ((t4, ()), ()) | some (.inr ((list2, n2, ()), ())) => some ((((List.length list2 : Int) == n2), ()), ()) | none => none
noncomputable def spec_l11Numbers_x : Cx := ⟨tab, spec_l2Space_e, fun _ _ => 0, fun _ => false, [(16, 0), (16, 1), (16, 2), (16, 3)], []⟩
noncomputable def c127 : Code := bodyOf Try.f127
noncomputable def spec_l11Numbers_A : Ann := .seq .nil (.seq (.seq .nil (.loop spec_l11Numbers_J0 spec_l11Numbers_O0 spec_l11Numbers_B0 .nil)) .nil)
theorem spec_l11Numbers_r0 (p : spec_l11Numbers_J0.P) : run spec_l11Numbers_x (subc [1, 0, 1, 0, 0] c127) .nil (spec_l11Numbers_J0.S p) (leaf spec_l11Numbers_J0 spec_l11Numbers_O0) = spec_l11Numbers_B0 p := by kernel_rfl
noncomputable def spec_l11Numbers_D : Ve.Fn := ⟨127, spec_l11Numbers_a, spec_l11Numbers_o, spec_l11Numbers_E, spec_l11Numbers⟩
theorem spec_l11Numbers_w : Walk Try.prog spec_l11Numbers_x spec_l11Numbers_D Try.f127 c127 22 spec_l11Numbers_A :=
  ⟨⟨Try.func127, by kernel_rfl, by kernel_rfl, by kernel_rfl, by decide, by kernel_rfl, Nat.le_of_ble_eq_true (by kernel_rfl)⟩, by kernel_rfl, by kernel_rfl, by kernel_rfl, kcast (by kernel_rfl) (⟨spec_l11Numbers_r0, trivial⟩ : (∀ p, run spec_l11Numbers_x (subc [1, 0, 1, 0, 0] c127) .nil (spec_l11Numbers_J0.S p) (leaf spec_l11Numbers_J0 spec_l11Numbers_O0) = spec_l11Numbers_B0 p) ∧ True), by kernel_rfl, fun x y => by kernel_rfl⟩
theorem spec_l11Numbers_s : spec_l11Numbers_D.Says Try.prog := spec_l11Numbers_w.says follows tabOk spec_l2Space_e_ok
noncomputable def spec_l11Numbers_e : Env := more spec_l2Space_e spec_l11Numbers_D
theorem spec_l11Numbers_e_ok : EnvOk Try.prog spec_l11Numbers_e := more_ok spec_l2Space_e_ok spec_l11Numbers_s
/-! loop.example/g01128/spec.l11Weighted -/
abbrev spec_l11Weighted_E : Ve.End := ⟨[⟨4, .shr, .bool, none⟩], []⟩
abbrev spec_l11Weighted_a : List ASh := [.val (.prod (.list (.list I)) (.list (.prod I I))), .val (.list I)]
abbrev spec_l11Weighted_o : List OSh := []
noncomputable def spec_l11Weighted : argP spec_l11Weighted_a → obP (extObs 0 spec_l11Weighted_o) → Option spec_l11Weighted_E.P
  | (x, weights, ()), () => match spec_l2Space (x, ()) () with | some ((r, ()), ()) => (bif r then (match spec_l11Numbers (weights, (List.length x.2 : Int), ()) () with | some ((r2, ()), ()) => some ((r2, ()), ()) | none => none) else (some ((false, ()), ()))) | none => none
noncomputable def spec_l11Weighted_x : Cx := ⟨tab, spec_l11Numbers_e, fun _ _ => 0, fun _ => false, [(6, 0), (6, 1), (6, 2), (6, 3), (12, 0), (12, 1), (12, 2), (12, 3)], [(2, 0)]⟩
noncomputable def c70 : Code := bodyOf Try.f70
noncomputable def spec_l11Weighted_A : Ann := .nil
noncomputable def spec_l11Weighted_D : Ve.Fn := ⟨70, spec_l11Weighted_a, spec_l11Weighted_o, spec_l11Weighted_E, spec_l11Weighted⟩
theorem spec_l11Weighted_w : Walk Try.prog spec_l11Weighted_x spec_l11Weighted_D Try.f70 c70 14 spec_l11Weighted_A :=
  ⟨⟨Try.func70, by kernel_rfl, by kernel_rfl, by kernel_rfl, by decide, by kernel_rfl, Nat.le_of_ble_eq_true (by kernel_rfl)⟩, by kernel_rfl, by kernel_rfl, by kernel_rfl, kcast (by kernel_rfl) trivial, by kernel_rfl, fun x y => by kernel_rfl⟩
theorem spec_l11Weighted_s : spec_l11Weighted_D.Says Try.prog := spec_l11Weighted_w.says follows tabOk spec_l11Numbers_e_ok
noncomputable def spec_l11Weighted_e : Env := more spec_l11Numbers_e spec_l11Weighted_D
theorem spec_l11Weighted_e_ok : EnvOk Try.prog spec_l11Weighted_e := more_ok spec_l11Numbers_e_ok spec_l11Weighted_s
/-! loop.example/g01128/spec.l2Place -/
abbrev spec_l2Place_E : Ve.End := ⟨[⟨4, .shr, .bool, none⟩], []⟩
abbrev spec_l2Place_a : List ASh := [.val (.prod (.list (.list I)) (.list (.prod I I))), .val I]
abbrev spec_l2Place_o : List OSh := []
noncomputable def spec_l2Place : argP spec_l2Place_a → obP (extObs 0 spec_l2Place_o) → Option spec_l2Place_E.P
  | (x, i, ()), () => match spec_l2Space (x, ()) () with | some ((r, ()), ()) => (bif r then (match spec_l1In (i, (0 : Int), (w64 ((List.length x.1 : Int) - (1 : Int))), ()) () with | some ((r2, ()), ()) => some ((r2, ()), ()) | none => none) else (some ((false, ()), ()))) | none => none
noncomputable def spec_l2Place_x : Cx := ⟨tab, spec_l11Weighted_e, fun _ _ => 0, fun _ => false, [(6, 0), (6, 1), (6, 2), (6, 3), (13, 0), (13, 1), (13, 2), (13, 3)], [(2, 0)]⟩
noncomputable def c71 : Code := bodyOf Try.f71
noncomputable def spec_l2Place_A : Ann := .nil
noncomputable def spec_l2Place_D : Ve.Fn := ⟨71, spec_l2Place_a, spec_l2Place_o, spec_l2Place_E, spec_l2Place⟩
theorem spec_l2Place_w : Walk Try.prog spec_l2Place_x spec_l2Place_D Try.f71 c71 15 spec_l2Place_A :=
  ⟨⟨Try.func71, by kernel_rfl, by kernel_rfl, by kernel_rfl, by decide, by kernel_rfl, Nat.le_of_ble_eq_true (by kernel_rfl)⟩, by kernel_rfl, by kernel_rfl, by kernel_rfl, kcast (by kernel_rfl) trivial, by kernel_rfl, fun x y => by kernel_rfl⟩
theorem spec_l2Place_s : spec_l2Place_D.Says Try.prog := spec_l2Place_w.says follows tabOk spec_l11Weighted_e_ok
noncomputable def spec_l2Place_e : Env := more spec_l11Weighted_e spec_l2Place_D
theorem spec_l2Place_e_ok : EnvOk Try.prog spec_l2Place_e := more_ok spec_l11Weighted_e_ok spec_l2Place_s
/-! loop.example/g01128/spec.l11Pairs -/
abbrev spec_l11Pairs_J0 : Tpl := ⟨[(1, .val (.list I)), (2, .val I), (3, .cst (.prod (.list (.list I)) (.list (.prod I I)))), (7, .own .shr (.prod I I)), (8, .val I)], [], []⟩
abbrev spec_l11Pairs_J1 : Tpl := ⟨[(1, .val (.list I)), (2, .val I), (3, .cst (.prod (.list (.list I)) (.list (.prod I I)))), (7, .own .shr (.prod I I))], [], []⟩
abbrev spec_l11Pairs_J2 : Tpl := ⟨[(1, .val (.list I)), (3, .cst (.prod (.list (.list I)) (.list (.prod I I)))), (7, .own .shr (.prod I I)), (9, .val .bool), (10, .val I), (11, .val I)], [], []⟩
abbrev spec_l11Pairs_J3 : Tpl := ⟨[(1, .val (.list I)), (3, .cst (.prod (.list (.list I)) (.list (.prod I I)))), (7, .own .shr (.prod I I)), (9, .val .bool), (10, .val I)], [], []⟩
abbrev spec_l11Pairs_J4 : Tpl := ⟨[(1, .val (.list I)), (3, .cst (.prod (.list (.list I)) (.list (.prod I I)))), (7, .own .shr (.prod I I)), (9, .val .bool)], [], []⟩
abbrev spec_l11Pairs_J5 : Tpl := ⟨[(7, .own .shr (.prod I I))], [], []⟩
abbrev spec_l11Pairs_E : Ve.End := ⟨[⟨6, (.own .shr), (.list (.prod I I)), none⟩], []⟩
abbrev spec_l11Pairs_a : List ASh := [.val (.prod (.list (.list I)) (.list (.prod I I))), .val (.list I), .val I]
abbrev spec_l11Pairs_o : List OSh := []
abbrev spec_l11Pairs_O0 : Out := .one (.ex 0) spec_l11Pairs_J1
noncomputable def spec_l11Pairs_B0 : spec_l11Pairs_J0.P → Option (spec_l11Pairs_J0.P ⊕ spec_l11Pairs_O0.P)
  | ((t1, t2, t3, t7, t8, ()), ()) => bif (decide (t8 < (List.length t3.1 : Int))) then (guardB (decide ((List.length t7 + List.length [((-1 : Int), (-1 : Int))]) * 16 ≤ 70368744177664)) (some (.inl ((t1, t2, t3, (t7 ++ [((-1 : Int), (-1 : Int))]), (w64 (t8 + (1 : Int))), ()), ())))) else (some (.inr ((t1, t2, t3, t7, ()), ())))
abbrev spec_l11Pairs_O1 : Out := .one (.ex 6) spec_l11Pairs_J3
noncomputable def spec_l11Pairs_B1 : spec_l11Pairs_J2.P → Option (spec_l11Pairs_J2.P ⊕ spec_l11Pairs_O1.P)
  | ((t1, t3, t7, t9, t10, t11, ()), ()) => bif (decide (t11 < (2 : Int))) then (guardB (inb t10 (List.length t3.2)) (guardB (decide (0 ≤ t11) && decide (t11 < 2)) (guardB (inb t10 (List.length t3.2)) (guardB (decide (0 ≤ (w64 ((1 : Int) - t11))) && decide ((w64 ((1 : Int) - t11)) < 2)) (guardB (inb (bif Nat.beq (Int.toNat t11) 0 then (List.getD t3.2 (Int.toNat t10) ((0 : Int), (0 : Int))).1 else (List.getD t3.2 (Int.toNat t10) ((0 : Int), (0 : Int))).2) (List.length t7)) (guardB (inb t10 (List.length t1)) (guardB (inb (bif Nat.beq (Int.toNat t11) 0 then (List.getD t3.2 (Int.toNat t10) ((0 : Int), (0 : Int))).1 else (List.getD t3.2 (Int.toNat t10) ((0 : Int), (0 : Int))).2) (List.length t7)) (guardB (inb (bif Nat.beq (Int.toNat t11) 0 then (List.getD t3.2 (Int.toNat t10) ((0 : Int), (0 : Int))).1 else (List.getD t3.2 (Int.toNat t10) ((0 : Int), (0 : Int))).2) (List.length t7)) (bif (decide ((0 : Int) ≤ ((List.getD t7 (Int.toNat (bif Nat.beq (Int.toNat t11) 0 then (List.getD t3.2 (Int.toNat t10) ((0 : Int), (0 : Int))).1 else (List.getD t3.2 (Int.toNat t10) ((0 : Int), (0 : Int))).2)) ((0 : Int), (0 : Int))).1))) then (guardB (inb (bif Nat.beq (Int.toNat (w64 ((1 : Int) - t11))) 0 then (List.getD t3.2 (Int.toNat t10) ((0 : Int), (0 : Int))).1 else (List.getD t3.2 (Int.toNat t10) ((0 : Int), (0 : Int))).2) (List.length t7)) (bif (decide (((List.getD t7 (Int.toNat (bif Nat.beq (Int.toNat (w64 ((1 : Int) - t11))) 0 then (List.getD t3.2 (Int.toNat t10) ((0 : Int), (0 : Int))).1 else (List.getD t3.2 (Int.toNat t10) ((0 : Int), (0 : Int))).2)) ((0 : Int), (0 : Int))).1) < (0 : Int))) then (guardB (inb (bif Nat.beq (Int.toNat (w64 ((1 : Int) - t11))) 0 then (List.getD t3.2 (Int.toNat t10) ((0 : Int), (0 : Int))).1 else (List.getD t3.2 (Int.toNat t10) ((0 : Int), (0 : Int))).2) (List.length t7)) (some (.inl ((t1, t3, (List.set t7 (Int.toNat (bif Nat.beq (Int.toNat (w64 ((1 : Int) - t11))) 0 then (List.getD t3.2 (Int.toNat t10) ((0 : Int), (0 : Int))).1 else (List.getD t3.2 (Int.toNat t10) ((0 : Int), (0 : Int))).2)) ((w64 (((List.getD t7 (Int.toNat (bif Nat.beq (Int.toNat t11) 0 then (List.getD t3.2 (Int.toNat t10) ((0 : Int), (0 : Int))).1 else (List.getD t3.2 (Int.toNat t10) ((0 : Int), (0 : Int))).2)) ((0 : Int), (0 : Int))).1) + (List.getD t1 (Int.toNat t10) (0 : Int)))), (w64 (((List.getD t7 (Int.toNat (bif Nat.beq (Int.toNat t11) 0 then (List.getD t3.2 (Int.toNat t10) ((0 : Int), (0 : Int))).1 else (List.getD t3.2 (Int.toNat t10) ((0 : Int), (0 : Int))).2)) ((0 : Int), (0 : Int))).2) + (1 : Int))))), true, t10, (w64 (t11 + (1 : Int))), ()), ())))) else (guardB (inb (bif Nat.beq (Int.toNat (w64 ((1 : Int) - t11))) 0 then (List.getD t3.2 (Int.toNat t10) ((0 : Int), (0 : Int))).1 else (List.getD t3.2 (Int.toNat t10) ((0 : Int), (0 : Int))).2) (List.length t7)) (match spec_l2Edge (((w64 (((List.getD t7 (Int.toNat (bif Nat.beq (Int.toNat t11) 0 then (List.getD t3.2 (Int.toNat t10) ((0 : Int), (0 : Int))).1 else (List.getD t3.2 (Int.toNat t10) ((0 : Int), (0 : Int))).2)) ((0 : Int), (0 : Int))).1) + (List.getD t1 (Int.toNat t10) (0 : Int)))), (w64 (((List.getD t7 (Int.toNat (bif Nat.beq (Int.toNat t11) 0 then (List.getD t3.2 (Int.toNat t10) ((0 : Int), (0 : Int))).1 else (List.getD t3.2 (Int.toNat t10) ((0 : Int), (0 : Int))).2)) ((0 : Int), (0 : Int))).2) + (1 : Int)))), (List.getD t7 (Int.toNat (bif Nat.beq (Int.toNat (w64 ((1 : Int) - t11))) 0 then (List.getD t3.2 (Int.toNat t10) ((0 : Int), (0 : Int))).1 else (List.getD t3.2 (Int.toNat t10) ((0 : Int), (0 : Int))).2)) ((0 : Int), (0 : Int))), ()) () with | some ((r, ()), ()) => (bif r then (guardB (inb (bif Nat.beq (Int.toNat (w64 ((1 : Int) - t11))) 0 then (List.getD t3.2 (Int.toNat t10) ((0 : Int), (0 : Int))).1 else (List.getD t3.2 (Int.toNat t10) ((0 : Int), (0 : Int))).2) (List.length t7)) (some (.inl ((t1, t3, (List.set t7 (Int.toNat (bif Nat.beq (Int.toNat (w64 ((1 : Int) - t11))) 0 then (List.getD t3.2 (Int.toNat t10) ((0 : Int), (0 : Int))).1 else (List.getD t3.2 (Int.toNat t10) ((0 : Int), (0 : Int))).2)) ((w64 (((List.getD t7 (Int.toNat (bif Nat.beq (Int.toNat t11) 0 then (List.getD t3.2 (Int.toNat t10) ((0 : Int), (0 : Int))).1 else (List.getD t3.2 (Int.toNat t10) ((0 : Int), (0 : Int))).2)) ((0 : Int), (0 : Int))).1) + (List.getD t1 (Int.toNat t10) (0 : Int)))), (w64 (((List.getD t7 (Int.toNat (bif Nat.beq (Int.toNat t11) 0 then (List.getD t3.2 (Int.toNat t10) ((0 : Int), (0 : Int))).1 else (List.getD t3.2 (Int.toNat t10) ((0 : Int), (0 : Int))).2)) ((0 : Int), (0 : Int))).2) + (1 : Int))))), true, t10, (w64 (t11 + (1 : Int))), ()), ())))) else (some (.inl ((t1, t3, t7, t9, t10, (w64 (t11 + (1 : Int))), ()), ())))) | none => none)))) else (some (.inl ((t1, t3, t7, t9, t10, (w64 (t11 + (1 : Int))), ()), ())))))))))))) else (some (.inr ((t1, t3, t7, t9, t10, ()), ())))
abbrev spec_l11Pairs_O2 : Out := .one (.ex 4) spec_l11Pairs_J4
noncomputable def spec_l11Pairs_B2 : spec_l11Pairs_J3.P → Option (spec_l11Pairs_J3.P ⊕ spec_l11Pairs_O2.P)
  | ((t1, t3, t7, t9, t10, ()), ()) => bif (decide (t10 < (List.length t3.2 : Int))) then (match loopO spec_l11Pairs_B1 ((t1, t3, t7, t9, t10, (0 : Int), ()), ()) with | some ((t1_2, t3_2, t7_2, t9_2, t10_2, ()), ()) => some (.inl ((t1_2, t3_2, t7_2, t9_2, (w64 (t10_2 + (1 : Int))), ()), ())) | none => none) else (some (.inr ((t1, t3, t7, t9, ()), ())))
abbrev spec_l11Pairs_O3 : Out := .one (.ex 2) spec_l11Pairs_J5
noncomputable def spec_l11Pairs_B3 : spec_l11Pairs_J4.P → Option (spec_l11Pairs_J4.P ⊕ spec_l11Pairs_O3.P)
  | ((t1, t3, t7, t9, ()), ()) => bif t9 then (match loopO spec_l11Pairs_B2 ((t1, t3, t7, false, (0 : Int), ()), ()) with | some ((t1_2, t3_2, t7_2, t9_2, ()), ()) => some (.inl ((t1_2, t3_2, t7_2, t9_2, ()), ())) | none => none) else (some (.inr ((t7, ()), ())))
noncomputable def spec_l11Pairs : argP spec_l11Pairs_a → obP (extObs 0 spec_l11Pairs_o) → Option spec_l11Pairs_E.P
  | (t0, t1, t2, ()), () => match loopO spec_l11Pairs_B0 ((t1, t2, t0, ([] : (List (Int × Int))), (0 : Int), ()), ()) with | some ((t1_2, t2_2, t3, t7, ()), ()) => guardB (inb t2_2 (List.length t7)) (match loopO spec_l11Pairs_B3 ((t1_2, t3, (List.set t7 (Int.toNat t2_2) ((0 : Int), (0 : Int))), true, ()), ()) with | some ((t7_2, ()), ()) => some ((t7_2, ()), ()) | none => none) | none => none
noncomputable def spec_l11Pairs_x : Cx := ⟨tab, spec_l2Place_e, fun _ _ => 0, fun _ => false, [(25, 0), (94, 0), (94, 1), (94, 2), (94, 3)], [(3, 0), (14, 0)]⟩
noncomputable def c72 : Code := bodyOf Try.f72
noncomputable def spec_l11Pairs_A : Ann := .seq .nil (.seq .nil (.seq (.seq .nil (.loop spec_l11Pairs_J0 spec_l11Pairs_O0 spec_l11Pairs_B0 .nil)) (.seq .nil (.seq (.seq .nil (.loop spec_l11Pairs_J4 spec_l11Pairs_O3 spec_l11Pairs_B3 (.seq .nil (.seq .nil (.seq .nil (.loop spec_l11Pairs_J3 spec_l11Pairs_O2 spec_l11Pairs_B2 (.seq .nil (.seq (.seq .nil (.loop spec_l11Pairs_J2 spec_l11Pairs_O1 spec_l11Pairs_B1 (.seq .nil (.seq (.seq (.draw [(0, .flo), (1, .flo), (2, .flo), (3, .flo), (4, .flo), (5, .flo), (6, .flo), (7, .flo), (8, .flo), (9, .flo), (10, .flo), (11, .flo), (12, .flo), (13, .flo), (14, .flo), (15, .flo), (16, .flo)]) (.seq (.draw [(0, .flo), (1, .flo), (2, .flo), (3, .flo), (5, .flo), (6, .flo), (7, .flo), (8, .flo), (10, .flo), (11, .flo), (12, .flo), (13, .flo), (4, .qui), (9, .flo), (14, .qui), (15, .flo), (16, .flo), (17, .sole), (18, .sole)]) (.seq (.draw [(0, .flo), (1, .flo), (2, .flo), (3, .flo), (4, .qui), (5, .flo), (6, .flo), (7, .flo), (8, .flo), (9, .flo), (10, .flo), (11, .qui), (12, .flo), (13, .flo), (14, .flo), (15, .flo), (16, .flo), (17, .flo), (18, .qui), (19, .sole), (20, .flo), (21, .flo)]) .nil))) .nil)))) .nil)))))))) .nil))))
theorem spec_l11Pairs_r0 (p : spec_l11Pairs_J0.P) : run spec_l11Pairs_x (subc [1, 1, 0, 1, 0, 0] c72) .nil (spec_l11Pairs_J0.S p) (leaf spec_l11Pairs_J0 spec_l11Pairs_O0) = spec_l11Pairs_B0 p := by kernel_rfl
theorem spec_l11Pairs_r1 (p : spec_l11Pairs_J4.P) : run spec_l11Pairs_x (subc [1, 1, 1, 1, 0, 1, 0, 0] c72) (.seq .nil (.seq .nil (.seq .nil (.loop spec_l11Pairs_J3 spec_l11Pairs_O2 spec_l11Pairs_B2 (.seq .nil (.seq (.seq .nil (.loop spec_l11Pairs_J2 spec_l11Pairs_O1 spec_l11Pairs_B1 (.seq .nil (.seq (.seq (.draw [(0, .flo), (1, .flo), (2, .flo), (3, .flo), (4, .flo), (5, .flo), (6, .flo), (7, .flo), (8, .flo), (9, .flo), (10, .flo), (11, .flo), (12, .flo), (13, .flo), (14, .flo), (15, .flo), (16, .flo)]) (.seq (.draw [(0, .flo), (1, .flo), (2, .flo), (3, .flo), (5, .flo), (6, .flo), (7, .flo), (8, .flo), (10, .flo), (11, .flo), (12, .flo), (13, .flo), (4, .qui), (9, .flo), (14, .qui), (15, .flo), (16, .flo), (17, .sole), (18, .sole)]) (.seq (.draw [(0, .flo), (1, .flo), (2, .flo), (3, .flo), (4, .qui), (5, .flo), (6, .flo), (7, .flo), (8, .flo), (9, .flo), (10, .flo), (11, .qui), (12, .flo), (13, .flo), (14, .flo), (15, .flo), (16, .flo), (17, .flo), (18, .qui), (19, .sole), (20, .flo), (21, .flo)]) .nil))) .nil)))) .nil)))))) (spec_l11Pairs_J4.S p) (leaf spec_l11Pairs_J4 spec_l11Pairs_O3) = spec_l11Pairs_B3 p := by kernel_rfl
theorem spec_l11Pairs_r2 (p : spec_l11Pairs_J3.P) : run spec_l11Pairs_x (subc [1, 1, 1, 1, 0, 1, 0, 0, 1, 0, 1, 1, 0, 0] c72) (.seq .nil (.seq (.seq .nil (.loop spec_l11Pairs_J2 spec_l11Pairs_O1 spec_l11Pairs_B1 (.seq .nil (.seq (.seq (.draw [(0, .flo), (1, .flo), (2, .flo), (3, .flo), (4, .flo), (5, .flo), (6, .flo), (7, .flo), (8, .flo), (9, .flo), (10, .flo), (11, .flo), (12, .flo), (13, .flo), (14, .flo), (15, .flo), (16, .flo)]) (.seq (.draw [(0, .flo), (1, .flo), (2, .flo), (3, .flo), (5, .flo), (6, .flo), (7, .flo), (8, .flo), (10, .flo), (11, .flo), (12, .flo), (13, .flo), (4, .qui), (9, .flo), (14, .qui), (15, .flo), (16, .flo), (17, .sole), (18, .sole)]) (.seq (.draw [(0, .flo), (1, .flo), (2, .flo), (3, .flo), (4, .qui), (5, .flo), (6, .flo), (7, .flo), (8, .flo), (9, .flo), (10, .flo), (11, .qui), (12, .flo), (13, .flo), (14, .flo), (15, .flo), (16, .flo), (17, .flo), (18, .qui), (19, .sole), (20, .flo), (21, .flo)]) .nil))) .nil)))) .nil)) (spec_l11Pairs_J3.S p) (leaf spec_l11Pairs_J3 spec_l11Pairs_O2) = spec_l11Pairs_B2 p := by kernel_rfl
theorem spec_l11Pairs_r3 (p : spec_l11Pairs_J2.P) : run spec_l11Pairs_x (subc [1, 1, 1, 1, 0, 1, 0, 0, 1, 0, 1, 1, 0, 0, 1, 0, 0, 1, 0, 0] c72) (.seq .nil (.seq (.seq (.draw [(0, .flo), (1, .flo), (2, .flo), (3, .flo), (4, .flo), (5, .flo), (6, .flo), (7, .flo), (8, .flo), (9, .flo), (10, .flo), (11, .flo), (12, .flo), (13, .flo), (14, .flo), (15, .flo), (16, .flo)]) (.seq (.draw [(0, .flo), (1, .flo), (2, .flo), (3, .flo), (5, .flo), (6, .flo), (7, .flo), (8, .flo), (10, .flo), (11, .flo), (12, .flo), (13, .flo), (4, .qui), (9, .flo), (14, .qui), (15, .flo), (16, .flo), (17, .sole), (18, .sole)]) (.seq (.draw [(0, .flo), (1, .flo), (2, .flo), (3, .flo), (4, .qui), (5, .flo), (6, .flo), (7, .flo), (8, .flo), (9, .flo), (10, .flo), (11, .qui), (12, .flo), (13, .flo), (14, .flo), (15, .flo), (16, .flo), (17, .flo), (18, .qui), (19, .sole), (20, .flo), (21, .flo)]) .nil))) .nil)) (spec_l11Pairs_J2.S p) (leaf spec_l11Pairs_J2 spec_l11Pairs_O1) = spec_l11Pairs_B1 p := by kernel_rfl
noncomputable def spec_l11Pairs_D : Ve.Fn := ⟨72, spec_l11Pairs_a, spec_l11Pairs_o, spec_l11Pairs_E, spec_l11Pairs⟩
theorem spec_l11Pairs_w : Walk Try.prog spec_l11Pairs_x spec_l11Pairs_D Try.f72 c72 102 spec_l11Pairs_A :=
  ⟨⟨Try.func72, by kernel_rfl, by kernel_rfl, by kernel_rfl, by decide, by kernel_rfl, Nat.le_of_ble_eq_true (by kernel_rfl)⟩, by kernel_rfl, by kernel_rfl, by kernel_rfl, kcast (by kernel_rfl) (⟨spec_l11Pairs_r0, spec_l11Pairs_r1, spec_l11Pairs_r2, spec_l11Pairs_r3, trivial⟩ : (∀ p, run spec_l11Pairs_x (subc [1, 1, 0, 1, 0, 0] c72) .nil (spec_l11Pairs_J0.S p) (leaf spec_l11Pairs_J0 spec_l11Pairs_O0) = spec_l11Pairs_B0 p) ∧ (∀ p, run spec_l11Pairs_x (subc [1, 1, 1, 1, 0, 1, 0, 0] c72) (.seq .nil (.seq .nil (.seq .nil (.loop spec_l11Pairs_J3 spec_l11Pairs_O2 spec_l11Pairs_B2 (.seq .nil (.seq (.seq .nil (.loop spec_l11Pairs_J2 spec_l11Pairs_O1 spec_l11Pairs_B1 (.seq .nil (.seq (.seq (.draw [(0, .flo), (1, .flo), (2, .flo), (3, .flo), (4, .flo), (5, .flo), (6, .flo), (7, .flo), (8, .flo), (9, .flo), (10, .flo), (11, .flo), (12, .flo), (13, .flo), (14, .flo), (15, .flo), (16, .flo)]) (.seq (.draw [(0, .flo), (1, .flo), (2, .flo), (3, .flo), (5, .flo), (6, .flo), (7, .flo), (8, .flo), (10, .flo), (11, .flo), (12, .flo), (13, .flo), (4, .qui), (9, .flo), (14, .qui), (15, .flo), (16, .flo), (17, .sole), (18, .sole)]) (.seq (.draw [(0, .flo), (1, .flo), (2, .flo), (3, .flo), (4, .qui), (5, .flo), (6, .flo), (7, .flo), (8, .flo), (9, .flo), (10, .flo), (11, .qui), (12, .flo), (13, .flo), (14, .flo), (15, .flo), (16, .flo), (17, .flo), (18, .qui), (19, .sole), (20, .flo), (21, .flo)]) .nil))) .nil)))) .nil)))))) (spec_l11Pairs_J4.S p) (leaf spec_l11Pairs_J4 spec_l11Pairs_O3) = spec_l11Pairs_B3 p) ∧ (∀ p, run spec_l11Pairs_x (subc [1, 1, 1, 1, 0, 1, 0, 0, 1, 0, 1, 1, 0, 0] c72) (.seq .nil (.seq (.seq .nil (.loop spec_l11Pairs_J2 spec_l11Pairs_O1 spec_l11Pairs_B1 (.seq .nil (.seq (.seq (.draw [(0, .flo), (1, .flo), (2, .flo), (3, .flo), (4, .flo), (5, .flo), (6, .flo), (7, .flo), (8, .flo), (9, .flo), (10, .flo), (11, .flo), (12, .flo), (13, .flo), (14, .flo), (15, .flo), (16, .flo)]) (.seq (.draw [(0, .flo), (1, .flo), (2, .flo), (3, .flo), (5, .flo), (6, .flo), (7, .flo), (8, .flo), (10, .flo), (11, .flo), (12, .flo), (13, .flo), (4, .qui), (9, .flo), (14, .qui), (15, .flo), (16, .flo), (17, .sole), (18, .sole)]) (.seq (.draw [(0, .flo), (1, .flo), (2, .flo), (3, .flo), (4, .qui), (5, .flo), (6, .flo), (7, .flo), (8, .flo), (9, .flo), (10, .flo), (11, .qui), (12, .flo), (13, .flo), (14, .flo), (15, .flo), (16, .flo), (17, .flo), (18, .qui), (19, .sole), (20, .flo), (21, .flo)]) .nil))) .nil)))) .nil)) (spec_l11Pairs_J3.S p) (leaf spec_l11Pairs_J3 spec_l11Pairs_O2) = spec_l11Pairs_B2 p) ∧ (∀ p, run spec_l11Pairs_x (subc [1, 1, 1, 1, 0, 1, 0, 0, 1, 0, 1, 1, 0, 0, 1, 0, 0, 1, 0, 0] c72) (.seq .nil (.seq (.seq (.draw [(0, .flo), (1, .flo), (2, .flo), (3, .flo), (4, .flo), (5, .flo), (6, .flo), (7, .flo), (8, .flo), (9, .flo), (10, .flo), (11, .flo), (12, .flo), (13, .flo), (14, .flo), (15, .flo), (16, .flo)]) (.seq (.draw [(0, .flo), (1, .flo), (2, .flo), (3, .flo), (5, .flo), (6, .flo), (7, .flo), (8, .flo), (10, .flo), (11, .flo), (12, .flo), (13, .flo), (4, .qui), (9, .flo), (14, .qui), (15, .flo), (16, .flo), (17, .sole), (18, .sole)]) (.seq (.draw [(0, .flo), (1, .flo), (2, .flo), (3, .flo), (4, .qui), (5, .flo), (6, .flo), (7, .flo), (8, .flo), (9, .flo), (10, .flo), (11, .qui), (12, .flo), (13, .flo), (14, .flo), (15, .flo), (16, .flo), (17, .flo), (18, .qui), (19, .sole), (20, .flo), (21, .flo)]) .nil))) .nil)) (spec_l11Pairs_J2.S p) (leaf spec_l11Pairs_J2 spec_l11Pairs_O1) = spec_l11Pairs_B1 p) ∧ True), by kernel_rfl, fun x y => by kernel_rfl⟩
theorem spec_l11Pairs_s : spec_l11Pairs_D.Says Try.prog := spec_l11Pairs_w.says follows tabOk spec_l2Place_e_ok
noncomputable def spec_l11Pairs_e : Env := more spec_l2Place_e spec_l11Pairs_D
theorem spec_l11Pairs_e_ok : EnvOk Try.prog spec_l11Pairs_e := more_ok spec_l2Place_e_ok spec_l11Pairs_s
/-! loop.example/g01128/spec.l2Lists -/
abbrev spec_l2Lists_J0 : Tpl := ⟨[(1, .cst (.prod (.list (.list I)) (.list (.prod I I)))), (3, .own (.own .shr) (.list I)), (4, .val I)], [], []⟩
abbrev spec_l2Lists_J1 : Tpl := ⟨[(1, .cst (.prod (.list (.list I)) (.list (.prod I I)))), (3, .own (.own .shr) (.list I))], [], []⟩
abbrev spec_l2Lists_J2 : Tpl := ⟨[(1, .cst (.prod (.list (.list I)) (.list (.prod I I)))), (3, .own (.own .shr) (.list I)), (7, .val I)], [], []⟩
abbrev spec_l2Lists_J3 : Tpl := ⟨[(3, .own (.own .shr) (.list I))], [], []⟩
abbrev spec_l2Lists_E : Ve.End := ⟨[⟨2, (.own (.own .shr)), (.list (.list I)), none⟩], []⟩
abbrev spec_l2Lists_a : List ASh := [.val (.prod (.list (.list I)) (.list (.prod I I)))]
abbrev spec_l2Lists_o : List OSh := []
abbrev spec_l2Lists_O0 : Out := .one (.ex 0) spec_l2Lists_J1
noncomputable def spec_l2Lists_B0 : spec_l2Lists_J0.P → Option (spec_l2Lists_J0.P ⊕ spec_l2Lists_O0.P)
  | ((t1, t3, t4, ()), ()) => bif (decide (t4 < (List.length t1.2 : Int))) then (guardB (inb t4 (List.length t1.2)) (guardB (inb t4 (List.length t1.2)) (guardB (inb ((List.getD t1.2 (Int.toNat t4) ((0 : Int), (0 : Int))).2) (List.length t3)) (guardB (decide ((List.length (List.getD t3 (Int.toNat ((List.getD t1.2 (Int.toNat t4) ((0 : Int), (0 : Int))).2)) ([] : (List Int))) + List.length [(List.getD t1.2 (Int.toNat t4) ((0 : Int), (0 : Int))).1]) * 8 ≤ 70368744177664)) (guardB (inb ((List.getD t1.2 (Int.toNat t4) ((0 : Int), (0 : Int))).2) (List.length t3)) (guardB (Nat.beq (Int.toNat ((List.getD t1.2 (Int.toNat t4) ((0 : Int), (0 : Int))).2)) (Int.toNat ((List.getD t1.2 (Int.toNat t4) ((0 : Int), (0 : Int))).2)) && true) (some (.inl ((t1, (List.set t3 (Int.toNat ((List.getD t1.2 (Int.toNat t4) ((0 : Int), (0 : Int))).2)) ((List.getD t3 (Int.toNat ((List.getD t1.2 (Int.toNat t4) ((0 : Int), (0 : Int))).2)) ([] : (List Int))) ++ [(List.getD t1.2 (Int.toNat t4) ((0 : Int), (0 : Int))).1])), (w64 (t4 + (1 : Int))), ()), ()))))))))) else (some (.inr ((t1, t3, ()), ())))
abbrev spec_l2Lists_O1 : Out := .one (.ex 2) spec_l2Lists_J3
noncomputable def spec_l2Lists_B1 : spec_l2Lists_J2.P → Option (spec_l2Lists_J2.P ⊕ spec_l2Lists_O1.P)
  | ((t1, t3, t7, ()), ()) => bif (decide (t7 < (List.length t1.2 : Int))) then (guardB (inb t7 (List.length t1.2)) (guardB (inb t7 (List.length t1.2)) (guardB (inb ((List.getD t1.2 (Int.toNat t7) ((0 : Int), (0 : Int))).1) (List.length t3)) (guardB (decide ((List.length (List.getD t3 (Int.toNat ((List.getD t1.2 (Int.toNat t7) ((0 : Int), (0 : Int))).1)) ([] : (List Int))) + List.length [(List.getD t1.2 (Int.toNat t7) ((0 : Int), (0 : Int))).2]) * 8 ≤ 70368744177664)) (guardB (inb ((List.getD t1.2 (Int.toNat t7) ((0 : Int), (0 : Int))).1) (List.length t3)) (guardB (Nat.beq (Int.toNat ((List.getD t1.2 (Int.toNat t7) ((0 : Int), (0 : Int))).1)) (Int.toNat ((List.getD t1.2 (Int.toNat t7) ((0 : Int), (0 : Int))).1)) && true) (some (.inl ((t1, (List.set t3 (Int.toNat ((List.getD t1.2 (Int.toNat t7) ((0 : Int), (0 : Int))).1)) ((List.getD t3 (Int.toNat ((List.getD t1.2 (Int.toNat t7) ((0 : Int), (0 : Int))).1)) ([] : (List Int))) ++ [(List.getD t1.2 (Int.toNat t7) ((0 : Int), (0 : Int))).2])), (w64 (t7 + (1 : Int))), ()), ()))))))))) else (some (.inr ((t3, ()), ())))
noncomputable def spec_l2Lists : argP spec_l2Lists_a → obP (extObs 0 spec_l2Lists_o) → Option spec_l2Lists_E.P
  | (t0, ()), () => guardB (decide (0 ≤ (List.length t0.1 : Int)) && decide ((List.length t0.1 : Int) ≤ (List.length t0.1 : Int)) && decide ((List.length t0.1 : Int) * 24 ≤ 140737488355328)) (match loopO spec_l2Lists_B0 ((t0, (List.replicate (Int.toNat (List.length t0.1 : Int)) ([] : (List Int))), (0 : Int), ()), ()) with | some ((t1, t3, ()), ()) => (match loopO spec_l2Lists_B1 ((t1, t3, (0 : Int), ()), ()) with | some ((t3_2, ()), ()) => some ((t3_2, ()), ()) | none => none) | none => none)
noncomputable def spec_l2Lists_x : Cx := ⟨tab, spec_l11Pairs_e, fun _ _ => 0, fun _ => false, [(40, 0), (69, 0)], [(1, 0)]⟩
noncomputable def c60 : Code := bodyOf Try.f60
noncomputable def spec_l2Lists_A : Ann := .seq .nil (.seq .nil (.seq (.seq .nil (.loop spec_l2Lists_J0 spec_l2Lists_O0 spec_l2Lists_B0 (.seq .nil (.seq (.seq (.draw [(0, .flo), (1, .flo), (2, .flo), (3, .flo), (4, .flo), (5, .flo), (6, .flo), (7, .flo), (8, .flo), (9, .flo), (10, .flo), (11, .flo), (12, .flo), (13, .flo)]) .nil) .nil)))) (.seq (.seq .nil (.loop spec_l2Lists_J2 spec_l2Lists_O1 spec_l2Lists_B1 (.seq .nil (.seq (.seq (.draw [(0, .flo), (1, .flo), (2, .flo), (3, .flo), (4, .flo), (5, .flo), (6, .flo), (7, .flo), (8, .flo), (9, .flo), (10, .flo), (11, .flo), (12, .flo), (13, .flo)]) .nil) .nil)))) .nil)))
theorem spec_l2Lists_r0 (p : spec_l2Lists_J0.P) : run spec_l2Lists_x (subc [1, 1, 0, 1, 0, 0] c60) (.seq .nil (.seq (.seq (.draw [(0, .flo), (1, .flo), (2, .flo), (3, .flo), (4, .flo), (5, .flo), (6, .flo), (7, .flo), (8, .flo), (9, .flo), (10, .flo), (11, .flo), (12, .flo), (13, .flo)]) .nil) .nil)) (spec_l2Lists_J0.S p) (leaf spec_l2Lists_J0 spec_l2Lists_O0) = spec_l2Lists_B0 p := by kernel_rfl
theorem spec_l2Lists_r1 (p : spec_l2Lists_J2.P) : run spec_l2Lists_x (subc [1, 1, 1, 0, 1, 0, 0] c60) (.seq .nil (.seq (.seq (.draw [(0, .flo), (1, .flo), (2, .flo), (3, .flo), (4, .flo), (5, .flo), (6, .flo), (7, .flo), (8, .flo), (9, .flo), (10, .flo), (11, .flo), (12, .flo), (13, .flo)]) .nil) .nil)) (spec_l2Lists_J2.S p) (leaf spec_l2Lists_J2 spec_l2Lists_O1) = spec_l2Lists_B1 p := by kernel_rfl
noncomputable def spec_l2Lists_D : Ve.Fn := ⟨60, spec_l2Lists_a, spec_l2Lists_o, spec_l2Lists_E, spec_l2Lists⟩
theorem spec_l2Lists_w : Walk Try.prog spec_l2Lists_x spec_l2Lists_D Try.f60 c60 73 spec_l2Lists_A :=
  ⟨⟨Try.func60, by kernel_rfl, by kernel_rfl, by kernel_rfl, by decide, by kernel_rfl, Nat.le_of_ble_eq_true (by kernel_rfl)⟩, by kernel_rfl, by kernel_rfl, by kernel_rfl, kcast (by kernel_rfl) (⟨spec_l2Lists_r0, spec_l2Lists_r1, trivial⟩ : (∀ p, run spec_l2Lists_x (subc [1, 1, 0, 1, 0, 0] c60) (.seq .nil (.seq (.seq (.draw [(0, .flo), (1, .flo), (2, .flo), (3, .flo), (4, .flo), (5, .flo), (6, .flo), (7, .flo), (8, .flo), (9, .flo), (10, .flo), (11, .flo), (12, .flo), (13, .flo)]) .nil) .nil)) (spec_l2Lists_J0.S p) (leaf spec_l2Lists_J0 spec_l2Lists_O0) = spec_l2Lists_B0 p) ∧ (∀ p, run spec_l2Lists_x (subc [1, 1, 1, 0, 1, 0, 0] c60) (.seq .nil (.seq (.seq (.draw [(0, .flo), (1, .flo), (2, .flo), (3, .flo), (4, .flo), (5, .flo), (6, .flo), (7, .flo), (8, .flo), (9, .flo), (10, .flo), (11, .flo), (12, .flo), (13, .flo)]) .nil) .nil)) (spec_l2Lists_J2.S p) (leaf spec_l2Lists_J2 spec_l2Lists_O1) = spec_l2Lists_B1 p) ∧ True), by kernel_rfl, fun x y => by kernel_rfl⟩
theorem spec_l2Lists_s : spec_l2Lists_D.Says Try.prog := spec_l2Lists_w.says follows tabOk spec_l11Pairs_e_ok
noncomputable def spec_l2Lists_e : Env := more spec_l11Pairs_e spec_l2Lists_D
theorem spec_l2Lists_e_ok : EnvOk Try.prog spec_l2Lists_e := more_ok spec_l11Pairs_e_ok spec_l2Lists_s
/-! loop.example/g01128/spec.l1Least -/
abbrev spec_l1Least_E : Ve.End := ⟨[⟨4, .shr, I, none⟩], []⟩
abbrev spec_l1Least_a : List ASh := [.val I, .val I]
abbrev spec_l1Least_o : List OSh := []
noncomputable def spec_l1Least : argP spec_l1Least_a → obP (extObs 0 spec_l1Least_o) → Option spec_l1Least_E.P
  | (a, b, ()), () => bif (decide (a < b)) then (some ((a, ()), ())) else (some ((b, ()), ()))
noncomputable def spec_l1Least_x : Cx := ⟨tab, spec_l2Lists_e, fun _ _ => 0, fun _ => false, [], []⟩
noncomputable def c134 : Code := bodyOf Try.f134
noncomputable def spec_l1Least_A : Ann := .nil
noncomputable def spec_l1Least_D : Ve.Fn := ⟨134, spec_l1Least_a, spec_l1Least_o, spec_l1Least_E, spec_l1Least⟩
theorem spec_l1Least_w : Walk Try.prog spec_l1Least_x spec_l1Least_D Try.f134 c134 10 spec_l1Least_A :=
  ⟨⟨Try.func134, by kernel_rfl, by kernel_rfl, by kernel_rfl, by decide, by kernel_rfl, Nat.le_of_ble_eq_true (by kernel_rfl)⟩, by kernel_rfl, by kernel_rfl, by kernel_rfl, kcast (by kernel_rfl) trivial, by kernel_rfl, fun x y => by kernel_rfl⟩
theorem spec_l1Least_s : spec_l1Least_D.Says Try.prog := spec_l1Least_w.says follows tabOk spec_l2Lists_e_ok
noncomputable def spec_l1Least_e : Env := more spec_l2Lists_e spec_l1Least_D
theorem spec_l1Least_e_ok : EnvOk Try.prog spec_l1Least_e := more_ok spec_l2Lists_e_ok spec_l1Least_s
/-! loop.example/g01128/spec.l1Most -/
abbrev spec_l1Most_E : Ve.End := ⟨[⟨4, .shr, I, none⟩], []⟩
abbrev spec_l1Most_a : List ASh := [.val I, .val I]
abbrev spec_l1Most_o : List OSh := []
noncomputable def spec_l1Most : argP spec_l1Most_a → obP (extObs 0 spec_l1Most_o) → Option spec_l1Most_E.P
  | (a, b, ()), () => bif (decide (b < a)) then (some ((a, ()), ())) else (some ((b, ()), ()))
noncomputable def spec_l1Most_x : Cx := ⟨tab, spec_l1Least_e, fun _ _ => 0, fun _ => false, [], []⟩
noncomputable def c79 : Code := bodyOf Try.f79
noncomputable def spec_l1Most_A : Ann := .nil
noncomputable def spec_l1Most_D : Ve.Fn := ⟨79, spec_l1Most_a, spec_l1Most_o, spec_l1Most_E, spec_l1Most⟩
theorem spec_l1Most_w : Walk Try.prog spec_l1Most_x spec_l1Most_D Try.f79 c79 10 spec_l1Most_A :=
  ⟨⟨Try.func79, by kernel_rfl, by kernel_rfl, by kernel_rfl, by decide, by kernel_rfl, Nat.le_of_ble_eq_true (by kernel_rfl)⟩, by kernel_rfl, by kernel_rfl, by kernel_rfl, kcast (by kernel_rfl) trivial, by kernel_rfl, fun x y => by kernel_rfl⟩
theorem spec_l1Most_s : spec_l1Most_D.Says Try.prog := spec_l1Most_w.says follows tabOk spec_l1Least_e_ok
noncomputable def spec_l1Most_e : Env := more spec_l1Least_e spec_l1Most_D
theorem spec_l1Most_e_ok : EnvOk Try.prog spec_l1Most_e := more_ok spec_l1Least_e_ok spec_l1Most_s
/-! loop.example/g01128/spec.l11Weight -/
abbrev spec_l11Weight_J0 : Tpl := ⟨[(1, .val (.list I)), (2, .val I), (3, .val I), (4, .cst (.prod (.list (.list I)) (.list (.prod I I)))), (9, .val I)], [], []⟩
abbrev spec_l11Weight_J1 : Tpl := ⟨[(8, .val I)], [], []⟩
abbrev spec_l11Weight_J2 : Tpl := ⟨[], [], []⟩
abbrev spec_l11Weight_E : Ve.End := ⟨[⟨8, .shr, I, none⟩], []⟩
abbrev spec_l11Weight_a : List ASh := [.val (.prod (.list (.list I)) (.list (.prod I I))), .val (.list I), .val I, .val I]
abbrev spec_l11Weight_o : List OSh := []
abbrev spec_l11Weight_O0 : Out := .or .ret spec_l11Weight_J1 (.one (.ex 0) spec_l11Weight_J2)
noncomputable def spec_l11Weight_B0 : spec_l11Weight_J0.P → Option (spec_l11Weight_J0.P ⊕ spec_l11Weight_O0.P)
  | ((weights, i, j, x, k, ()), ()) => bif (decide (k < (List.length x.2 : Int))) then (guardB (inb k (List.length x.2)) (match spec_l1Least (i, j, ()) () with | some ((r, ()), ()) => (match spec_l1Most (i, j, ()) () with | some ((r2, ()), ()) => (bif ((((List.getD x.2 (Int.toNat k) ((0 : Int), (0 : Int))).1) == r) && (((List.getD x.2 (Int.toNat k) ((0 : Int), (0 : Int))).2) == r2)) then (guardB (inb k (List.length weights)) (some (.inr (.inl (((List.getD weights (Int.toNat k) (0 : Int)), ()), ()))))) else (some (.inl ((weights, i, j, x, (w64 (k + (1 : Int))), ()), ())))) | none => none) | none => none)) else (some (.inr (.inr ((), ()))))
noncomputable def spec_l11Weight : argP spec_l11Weight_a → obP (extObs 0 spec_l11Weight_o) → Option spec_l11Weight_E.P
  | (x, weights, i, j, ()), () => match loopO spec_l11Weight_B0 ((weights, i, j, x, (0 : Int), ()), ()) with | some (.inl ((t8, ()), ())) => some ((t8, ()), ()) | some (.inr ((), ())) => some (((-1 : Int), ()), ()) | none => none
noncomputable def spec_l11Weight_x : Cx := ⟨tab, spec_l1Most_e, fun _ _ => 0, fun _ => false, [(24, 0), (24, 1), (24, 2), (24, 3), (27, 0), (27, 1), (27, 2), (27, 3)], [(4, 0)]⟩
noncomputable def c85 : Code := bodyOf Try.f85
noncomputable def spec_l11Weight_A : Ann := .seq .nil (.seq (.seq .nil (.loop spec_l11Weight_J0 spec_l11Weight_O0 spec_l11Weight_B0 (.seq .nil (.seq (.seq (.draw [(0, .flo), (1, .flo), (2, .flo), (3, .flo), (4, .flo), (5, .flo), (6, .flo), (8, .flo), (9, .flo), (7, .sole), (10, .sole), (11, .flo), (12, .flo)]) .nil) .nil)))) .nil)
theorem spec_l11Weight_r0 (p : spec_l11Weight_J0.P) : run spec_l11Weight_x (subc [1, 0, 1, 0, 0] c85) (.seq .nil (.seq (.seq (.draw [(0, .flo), (1, .flo), (2, .flo), (3, .flo), (4, .flo), (5, .flo), (6, .flo), (8, .flo), (9, .flo), (7, .sole), (10, .sole), (11, .flo), (12, .flo)]) .nil) .nil)) (spec_l11Weight_J0.S p) (leaf spec_l11Weight_J0 spec_l11Weight_O0) = spec_l11Weight_B0 p := by kernel_rfl
noncomputable def spec_l11Weight_D : Ve.Fn := ⟨85, spec_l11Weight_a, spec_l11Weight_o, spec_l11Weight_E, spec_l11Weight⟩
theorem spec_l11Weight_w : Walk Try.prog spec_l11Weight_x spec_l11Weight_D Try.f85 c85 34 spec_l11Weight_A :=
  ⟨⟨Try.func85, by kernel_rfl, by kernel_rfl, by kernel_rfl, by decide, by kernel_rfl, Nat.le_of_ble_eq_true (by kernel_rfl)⟩, by kernel_rfl, by kernel_rfl, by kernel_rfl, kcast (by kernel_rfl) (⟨spec_l11Weight_r0, trivial⟩ : (∀ p, run spec_l11Weight_x (subc [1, 0, 1, 0, 0] c85) (.seq .nil (.seq (.seq (.draw [(0, .flo), (1, .flo), (2, .flo), (3, .flo), (4, .flo), (5, .flo), (6, .flo), (8, .flo), (9, .flo), (7, .sole), (10, .sole), (11, .flo), (12, .flo)]) .nil) .nil)) (spec_l11Weight_J0.S p) (leaf spec_l11Weight_J0 spec_l11Weight_O0) = spec_l11Weight_B0 p) ∧ True), by kernel_rfl, fun x y => by kernel_rfl⟩
theorem spec_l11Weight_s : spec_l11Weight_D.Says Try.prog := spec_l11Weight_w.says follows tabOk spec_l1Most_e_ok
noncomputable def spec_l11Weight_e : Env := more spec_l1Most_e spec_l11Weight_D
theorem spec_l11Weight_e_ok : EnvOk Try.prog spec_l11Weight_e := more_ok spec_l1Most_e_ok spec_l11Weight_s
/-! loop.example/g01128/spec.CheapestWay -/
abbrev spec_CheapestWay_J0 : Tpl := ⟨[(1, .val (.list I)), (2, .val I), (3, .val I), (4, .cst (.prod (.list (.list I)) (.list (.prod I I)))), (10, .val (.list (.prod I I))), (11, .val (.list (.list I))), (12, .own .shr I), (13, .val I)], [], []⟩
abbrev spec_CheapestWay_J1 : Tpl := ⟨[(1, .val (.list I)), (2, .val I), (3, .val I), (4, .cst (.prod (.list (.list I)) (.list (.prod I I)))), (10, .val (.list (.prod I I))), (11, .val (.list (.list I))), (12, .own .shr I)], [], []⟩
abbrev spec_CheapestWay_J2 : Tpl := ⟨[(12, .own .shr I)], [], []⟩
abbrev spec_CheapestWay_J3 : Tpl := ⟨[(1, .val (.list I)), (2, .val I), (3, .val I), (4, .cst (.prod (.list (.list I)) (.list (.prod I I)))), (31, .val (.prod (.list (.list I)) (.list (.prod I I)))), (32, .val (.list I)), (33, .val I), (35, .val (.prod (.list (.list I)) (.list (.prod I I)))), (37, .val I)], [], []⟩
abbrev spec_CheapestWay_J4 : Tpl := ⟨[(1, .val (.list I)), (2, .val I), (3, .val I), (4, .cst (.prod (.list (.list I)) (.list (.prod I I)))), (34, .own .shr (.prod I I)), (35, .val (.prod (.list (.list I)) (.list (.prod I I)))), (37, .val I)], [], []⟩
abbrev spec_CheapestWay_E : Ve.End := ⟨[⟨8, (.own .shr), (.list I), none⟩, ⟨9, .shr, .bool, none⟩], []⟩
abbrev spec_CheapestWay_a : List ASh := [.val (.prod (.list (.list I)) (.list (.prod I I))), .val (.list I), .val I, .val I]
abbrev spec_CheapestWay_o : List OSh := []
noncomputable def spec_CheapestWay_D1 : spec_CheapestWay_J4.P → Option spec_CheapestWay_J1.P
  | ((t1, t2, t3, t4, t34, t35, t37, ()), ()) => match spec_l2Lists (t35, ()) () with | some ((r, ()), ()) => some ((t1, t2, t3, t4, t34, r, [t37], ()), ()) | none => none
noncomputable def spec_CheapestWay_T1 : DT spec_CheapestWay_J1 := .node spec_CheapestWay_J4 spec_CheapestWay_D1 (.br [(5, .sole), (8, .flo), (9, .flo), (7, .sole), (10, .flo)] .fin (.br [(7, .sole), (5, .sole), (8, .flo), (9, .flo), (10, .flo)] .fin .nobr))
noncomputable def spec_CheapestWay_D0 : spec_CheapestWay_J3.P → Option spec_CheapestWay_J1.P
  | ((t1, t2, t3, t4, t31, t32, t33, t35, t37, ()), ()) => match spec_l11Pairs (t31, t32, t33, ()) () with | some ((r, ()), ()) => spec_CheapestWay_D1 ((t1, t2, t3, t4, r, t35, t37, ()), ()) | none => none
noncomputable def spec_CheapestWay_T0 : DT spec_CheapestWay_J1 := .node spec_CheapestWay_J3 spec_CheapestWay_D0 (.br [(3, .sole)] spec_CheapestWay_T1 (.br [(7, .sole), (3, .sole), (5, .sole), (8, .flo), (9, .flo), (10, .flo)] .fin .nobr))
abbrev spec_CheapestWay_O0 : Out := .one (.ex 2) spec_CheapestWay_J0
noncomputable def spec_CheapestWay_B0 : spec_CheapestWay_J0.P → Option (spec_CheapestWay_J0.P ⊕ spec_CheapestWay_O0.P)
  | ((t1, t2, t3, t4, t10, t11, t12, t13, ()), ()) => guardB (inb t2 (List.length t11)) (guardB (inb t13 (List.length (List.getD t11 (Int.toNat t2) ([] : (List Int))))) (guardB (inb (List.getD (List.getD t11 (Int.toNat t2) ([] : (List Int))) (Int.toNat t13) (0 : Int)) (List.length t10)) (guardB (inb t2 (List.length t10)) (guardB (inb t2 (List.length t11)) (guardB (inb t13 (List.length (List.getD t11 (Int.toNat t2) ([] : (List Int))))) (guardB (inb t2 (List.length t10)) (match spec_l11Weight (t4, t1, t2, (List.getD (List.getD t11 (Int.toNat t2) ([] : (List Int))) (Int.toNat t13) (0 : Int)), ()) () with | some ((r, ()), ()) => (bif (!((((List.getD t10 (Int.toNat (List.getD (List.getD t11 (Int.toNat t2) ([] : (List Int))) (Int.toNat t13) (0 : Int))) ((0 : Int), (0 : Int))).1) == (w64 (((List.getD t10 (Int.toNat t2) ((0 : Int), (0 : Int))).1) - r))) && (((List.getD t10 (Int.toNat (List.getD (List.getD t11 (Int.toNat t2) ([] : (List Int))) (Int.toNat t13) (0 : Int))) ((0 : Int), (0 : Int))).2) == (w64 (((List.getD t10 (Int.toNat t2) ((0 : Int), (0 : Int))).2) - (1 : Int)))))) then (some (.inl ((t1, t2, t3, t4, t10, t11, t12, (w64 (t13 + (1 : Int))), ()), ()))) else (some (.inr ((t1, t2, t3, t4, t10, t11, t12, t13, ()), ())))) | none => none)))))))
abbrev spec_CheapestWay_O1 : Out := .one (.ex 0) spec_CheapestWay_J2
noncomputable def spec_CheapestWay_B1 : spec_CheapestWay_J1.P → Option (spec_CheapestWay_J1.P ⊕ spec_CheapestWay_O1.P)
  | ((t1, t2, t3, t4, t10, t11, t12, ()), ()) => bif (t2 != t3) then (match loopO spec_CheapestWay_B0 ((t1, t2, t3, t4, t10, t11, t12, (0 : Int), ()), ()) with | some ((t1_2, t2_2, t3_2, t4_2, t10_2, t11_2, t12_2, t13, ()), ()) => guardB (inb t2_2 (List.length t11_2)) (guardB (inb t13 (List.length (List.getD t11_2 (Int.toNat t2_2) ([] : (List Int))))) (guardB (decide ((List.length t12_2 + List.length [(List.getD (List.getD t11_2 (Int.toNat t2_2) ([] : (List Int))) (Int.toNat t13) (0 : Int))]) * 8 ≤ 70368744177664)) (some (.inl ((t1_2, (List.getD (List.getD t11_2 (Int.toNat t2_2) ([] : (List Int))) (Int.toNat t13) (0 : Int)), t3_2, t4_2, t10_2, t11_2, (t12_2 ++ [(List.getD (List.getD t11_2 (Int.toNat t2_2) ([] : (List Int))) (Int.toNat t13) (0 : Int))]), ()), ()))))) | none => none) else (some (.inr ((t12, ()), ())))
noncomputable def spec_CheapestWay : argP spec_CheapestWay_a → obP (extObs 0 spec_CheapestWay_o) → Option spec_CheapestWay_E.P
  | (t0, t1, t2, t3, ()), () => match spec_l11Weighted (t0, t1, ()) () with | some ((r, ()), ()) => (bif (!r) then (some ((([] : (List Int)), false, ()), ())) else (match spec_l2Place (t0, t2, ()) () with | some ((r2, ()), ()) => (bif (!r2) then (some ((([] : (List Int)), false, ()), ())) else (match spec_l2Place (t0, t3, ()) () with | some ((r3, ()), ()) => (bif (!r3) then (some ((([] : (List Int)), false, ()), ())) else (match spec_CheapestWay_D0 ((t1, t2, t3, t0, t0, t1, t3, t0, t2, ()), ()) with | some ((t1_2, t2_2, t3_2, t4, t10, t11, t12, ()), ()) => guardB (inb t2_2 (List.length t10)) (bif (decide (((List.getD t10 (Int.toNat t2_2) ((0 : Int), (0 : Int))).1) < (0 : Int))) then (some ((([] : (List Int)), false, ()), ())) else (match loopO spec_CheapestWay_B1 ((t1_2, t2_2, t3_2, t4, t10, t11, t12, ()), ()) with | some ((t12_2, ()), ()) => some ((t12_2, true, ()), ()) | none => none)) | none => none)) | none => none)) | none => none)) | none => none
noncomputable def spec_CheapestWay_x : Cx := ⟨tab, spec_l11Weight_e, fun _ _ => 0, fun _ => false, [(16, 0), (16, 1), (16, 2), (16, 3), (21, 0), (21, 1), (21, 2), (21, 3), (27, 0), (27, 1), (27, 2), (27, 3), (30, 0), (34, 0), (34, 1), (34, 2), (34, 3), (36, 0), (36, 1), (36, 2), (36, 3), (10, 0), (11, 0), (45, 0), (74, 0), (74, 1), (74, 2), (74, 3), (95, 0)], [(4, 0)]⟩
noncomputable def c38 : Code := bodyOf Try.f38
noncomputable def spec_CheapestWay_A : Ann := .seq .nil (.seq .nil (.seq (.draws [(0, .flo), (1, .flo), (2, .flo), (4, .flo), (6, .flo)] spec_CheapestWay_J1 spec_CheapestWay_T0) (.seq .nil (.seq (.loop spec_CheapestWay_J1 spec_CheapestWay_O1 spec_CheapestWay_B1 (.seq .nil (.seq .nil (.seq (.loop spec_CheapestWay_J0 spec_CheapestWay_O0 spec_CheapestWay_B0 (.seq (.seq (.draw [(0, .flo), (1, .flo), (2, .flo), (3, .flo), (4, .flo), (5, .flo), (6, .flo), (7, .flo), (8, .flo), (9, .flo), (10, .flo), (11, .flo), (12, .flo), (13, .flo), (14, .flo), (15, .flo), (16, .flo), (17, .flo), (18, .flo), (19, .flo), (20, .flo), (21, .flo), (22, .flo), (23, .flo), (24, .flo), (27, .flo), (28, .flo), (29, .flo), (30, .flo), (31, .flo), (32, .flo), (25, .sole), (26, .flo), (33, .flo), (34, .flo)]) .nil) .nil)) .nil)))) .nil))))
theorem spec_CheapestWay_D0b0 (p : spec_CheapestWay_J3.P) : runDrawn spec_CheapestWay_x (opsOf (subc [1, 1, 0] c38)) [(3, .sole)] (spec_CheapestWay_J3.S p) (endT spec_CheapestWay_x spec_CheapestWay_T1) = spec_CheapestWay_D0 p := by kernel_rfl
theorem spec_CheapestWay_D1b0 (p : spec_CheapestWay_J4.P) : runDrawn spec_CheapestWay_x (opsOf (subc [1, 1, 0] c38)) [(5, .sole), (8, .flo), (9, .flo), (7, .sole), (10, .flo)] (spec_CheapestWay_J4.S p) (endT spec_CheapestWay_x (.fin : DT spec_CheapestWay_J1)) = spec_CheapestWay_D1 p := by kernel_rfl
theorem spec_CheapestWay_D1b1 (p : spec_CheapestWay_J4.P) : runDrawn spec_CheapestWay_x (opsOf (subc [1, 1, 0] c38)) [(7, .sole), (5, .sole), (8, .flo), (9, .flo), (10, .flo)] (spec_CheapestWay_J4.S p) (endT spec_CheapestWay_x (.fin : DT spec_CheapestWay_J1)) = spec_CheapestWay_D1 p := by kernel_rfl
theorem spec_CheapestWay_D0b1 (p : spec_CheapestWay_J3.P) : runDrawn spec_CheapestWay_x (opsOf (subc [1, 1, 0] c38)) [(7, .sole), (3, .sole), (5, .sole), (8, .flo), (9, .flo), (10, .flo)] (spec_CheapestWay_J3.S p) (endT spec_CheapestWay_x (.fin : DT spec_CheapestWay_J1)) = spec_CheapestWay_D0 p := by kernel_rfl
theorem spec_CheapestWay_r1 (p : spec_CheapestWay_J1.P) : run spec_CheapestWay_x (subc [1, 1, 1, 1, 0, 0, 0] c38) (.seq .nil (.seq .nil (.seq (.loop spec_CheapestWay_J0 spec_CheapestWay_O0 spec_CheapestWay_B0 (.seq (.seq (.draw [(0, .flo), (1, .flo), (2, .flo), (3, .flo), (4, .flo), (5, .flo), (6, .flo), (7, .flo), (8, .flo), (9, .flo), (10, .flo), (11, .flo), (12, .flo), (13, .flo), (14, .flo), (15, .flo), (16, .flo), (17, .flo), (18, .flo), (19, .flo), (20, .flo), (21, .flo), (22, .flo), (23, .flo), (24, .flo), (27, .flo), (28, .flo), (29, .flo), (30, .flo), (31, .flo), (32, .flo), (25, .sole), (26, .flo), (33, .flo), (34, .flo)]) .nil) .nil)) .nil))) (spec_CheapestWay_J1.S p) (leaf spec_CheapestWay_J1 spec_CheapestWay_O1) = spec_CheapestWay_B1 p := by kernel_rfl
theorem spec_CheapestWay_r2 (p : spec_CheapestWay_J0.P) : run spec_CheapestWay_x (subc [1, 1, 1, 1, 0, 0, 0, 1, 0, 1, 0, 0, 0] c38) (.seq (.seq (.draw [(0, .flo), (1, .flo), (2, .flo), (3, .flo), (4, .flo), (5, .flo), (6, .flo), (7, .flo), (8, .flo), (9, .flo), (10, .flo), (11, .flo), (12, .flo), (13, .flo), (14, .flo), (15, .flo), (16, .flo), (17, .flo), (18, .flo), (19, .flo), (20, .flo), (21, .flo), (22, .flo), (23, .flo), (24, .flo), (27, .flo), (28, .flo), (29, .flo), (30, .flo), (31, .flo), (32, .flo), (25, .sole), (26, .flo), (33, .flo), (34, .flo)]) .nil) .nil) (spec_CheapestWay_J0.S p) (leaf spec_CheapestWay_J0 spec_CheapestWay_O0) = spec_CheapestWay_B0 p := by kernel_rfl
noncomputable def spec_CheapestWay_D : Ve.Fn := ⟨38, spec_CheapestWay_a, spec_CheapestWay_o, spec_CheapestWay_E, spec_CheapestWay⟩
theorem spec_CheapestWay_w : Walk Try.prog spec_CheapestWay_x spec_CheapestWay_D Try.f38 c38 98 spec_CheapestWay_A :=
  ⟨⟨Try.func38, by kernel_rfl, by kernel_rfl, by kernel_rfl, by decide, by kernel_rfl, Nat.le_of_ble_eq_true (by kernel_rfl)⟩, by kernel_rfl, by kernel_rfl, by kernel_rfl, kcast (by kernel_rfl) (⟨spec_CheapestWay_D0b0, spec_CheapestWay_D1b0, spec_CheapestWay_D1b1, spec_CheapestWay_D0b1, spec_CheapestWay_r1, spec_CheapestWay_r2, trivial⟩ : (∀ p, runDrawn spec_CheapestWay_x (opsOf (subc [1, 1, 0] c38)) [(3, .sole)] (spec_CheapestWay_J3.S p) (endT spec_CheapestWay_x spec_CheapestWay_T1) = spec_CheapestWay_D0 p) ∧ (∀ p, runDrawn spec_CheapestWay_x (opsOf (subc [1, 1, 0] c38)) [(5, .sole), (8, .flo), (9, .flo), (7, .sole), (10, .flo)] (spec_CheapestWay_J4.S p) (endT spec_CheapestWay_x (.fin : DT spec_CheapestWay_J1)) = spec_CheapestWay_D1 p) ∧ (∀ p, runDrawn spec_CheapestWay_x (opsOf (subc [1, 1, 0] c38)) [(7, .sole), (5, .sole), (8, .flo), (9, .flo), (10, .flo)] (spec_CheapestWay_J4.S p) (endT spec_CheapestWay_x (.fin : DT spec_CheapestWay_J1)) = spec_CheapestWay_D1 p) ∧ (∀ p, runDrawn spec_CheapestWay_x (opsOf (subc [1, 1, 0] c38)) [(7, .sole), (3, .sole), (5, .sole), (8, .flo), (9, .flo), (10, .flo)] (spec_CheapestWay_J3.S p) (endT spec_CheapestWay_x (.fin : DT spec_CheapestWay_J1)) = spec_CheapestWay_D0 p) ∧ (∀ p, run spec_CheapestWay_x (subc [1, 1, 1, 1, 0, 0, 0] c38) (.seq .nil (.seq .nil (.seq (.loop spec_CheapestWay_J0 spec_CheapestWay_O0 spec_CheapestWay_B0 (.seq (.seq (.draw [(0, .flo), (1, .flo), (2, .flo), (3, .flo), (4, .flo), (5, .flo), (6, .flo), (7, .flo), (8, .flo), (9, .flo), (10, .flo), (11, .flo), (12, .flo), (13, .flo), (14, .flo), (15, .flo), (16, .flo), (17, .flo), (18, .flo), (19, .flo), (20, .flo), (21, .flo), (22, .flo), (23, .flo), (24, .flo), (27, .flo), (28, .flo), (29, .flo), (30, .flo), (31, .flo), (32, .flo), (25, .sole), (26, .flo), (33, .flo), (34, .flo)]) .nil) .nil)) .nil))) (spec_CheapestWay_J1.S p) (leaf spec_CheapestWay_J1 spec_CheapestWay_O1) = spec_CheapestWay_B1 p) ∧ (∀ p, run spec_CheapestWay_x (subc [1, 1, 1, 1, 0, 0, 0, 1, 0, 1, 0, 0, 0] c38) (.seq (.seq (.draw [(0, .flo), (1, .flo), (2, .flo), (3, .flo), (4, .flo), (5, .flo), (6, .flo), (7, .flo), (8, .flo), (9, .flo), (10, .flo), (11, .flo), (12, .flo), (13, .flo), (14, .flo), (15, .flo), (16, .flo), (17, .flo), (18, .flo), (19, .flo), (20, .flo), (21, .flo), (22, .flo), (23, .flo), (24, .flo), (27, .flo), (28, .flo), (29, .flo), (30, .flo), (31, .flo), (32, .flo), (25, .sole), (26, .flo), (33, .flo), (34, .flo)]) .nil) .nil) (spec_CheapestWay_J0.S p) (leaf spec_CheapestWay_J0 spec_CheapestWay_O0) = spec_CheapestWay_B0 p) ∧ True), by kernel_rfl, fun x y => by kernel_rfl⟩
theorem spec_CheapestWay_s : spec_CheapestWay_D.Says Try.prog := spec_CheapestWay_w.says follows tabOk spec_l11Weight_e_ok
noncomputable def spec_CheapestWay_e : Env := more spec_l11Weight_e spec_CheapestWay_D
theorem spec_CheapestWay_e_ok : EnvOk Try.prog spec_CheapestWay_e := more_ok spec_l11Weight_e_ok spec_CheapestWay_s
/-! loop.example/g01128/impl.between -/
abbrev impl_between_E : Ve.End := ⟨[⟨6, .shr, .bool, none⟩], []⟩
abbrev impl_between_a : List ASh := [.val I, .val I, .val I]
abbrev impl_between_o : List OSh := []
noncomputable def impl_between : argP impl_between_a → obP (extObs 0 impl_between_o) → Option impl_between_E.P
  | (n, low, high, ()), () => bif (decide (low ≤ n)) then (some (((decide (n ≤ high)), ()), ())) else (some ((false, ()), ()))
noncomputable def impl_between_x : Cx := ⟨tab, spec_CheapestWay_e, fun _ _ => 0, fun _ => false, [], []⟩
noncomputable def c64 : Code := bodyOf Try.f64
noncomputable def impl_between_A : Ann := .nil
noncomputable def impl_between_D : Ve.Fn := ⟨64, impl_between_a, impl_between_o, impl_between_E, impl_between⟩
theorem impl_between_w : Walk Try.prog impl_between_x impl_between_D Try.f64 c64 15 impl_between_A :=
  ⟨⟨Try.func64, by kernel_rfl, by kernel_rfl, by kernel_rfl, by decide, by kernel_rfl, Nat.le_of_ble_eq_true (by kernel_rfl)⟩, by kernel_rfl, by kernel_rfl, by kernel_rfl, kcast (by kernel_rfl) trivial, by kernel_rfl, fun x y => by kernel_rfl⟩
theorem impl_between_s : impl_between_D.Says Try.prog := impl_between_w.says follows tabOk spec_CheapestWay_e_ok
noncomputable def impl_between_e : Env := more spec_CheapestWay_e impl_between_D
theorem impl_between_e_ok : EnvOk Try.prog impl_between_e := more_ok spec_CheapestWay_e_ok impl_between_s
/-! loop.example/g01128/impl.isState$1 -/
abbrev impl_isState_1_E : Ve.End := ⟨[⟨2, .shr, .bool, none⟩], []⟩
abbrev impl_isState_1_a : List ASh := [.val I]
abbrev impl_isState_1_o : List OSh := []
noncomputable def impl_isState_1 : argP impl_isState_1_a → obP (extObs 0 impl_isState_1_o) → Option impl_isState_1_E.P
  | (n, ()), () => match impl_between (n, (-99 : Int), (99 : Int), ()) () with | some ((r, ()), ()) => some (((!r), ()), ()) | none => none
noncomputable def impl_isState_1_x : Cx := ⟨tab, impl_between_e, fun _ _ => 0, fun _ => false, [(4, 0), (4, 1), (4, 2), (4, 3)], []⟩
noncomputable def c151 : Code := bodyOf Try.f151
noncomputable def impl_isState_1_A : Ann := .nil
noncomputable def impl_isState_1_D : Ve.Fn := ⟨151, impl_isState_1_a, impl_isState_1_o, impl_isState_1_E, impl_isState_1⟩
theorem impl_isState_1_w : Walk Try.prog impl_isState_1_x impl_isState_1_D Try.f151 c151 6 impl_isState_1_A :=
  ⟨⟨Try.func151, by kernel_rfl, by kernel_rfl, by kernel_rfl, by decide, by kernel_rfl, Nat.le_of_ble_eq_true (by kernel_rfl)⟩, by kernel_rfl, by kernel_rfl, by kernel_rfl, kcast (by kernel_rfl) trivial, by kernel_rfl, fun x y => by kernel_rfl⟩
theorem impl_isState_1_s : impl_isState_1_D.Says Try.prog := impl_isState_1_w.says follows tabOk impl_between_e_ok
noncomputable def impl_isState_1_e : Env := more impl_between_e impl_isState_1_D
theorem impl_isState_1_e_ok : EnvOk Try.prog impl_isState_1_e := more_ok impl_between_e_ok impl_isState_1_s
/-! slices.IndexFunc[[]int,int] -/
abbrev slices_IndexFunc_int_int_2_vf_impl_isState_1_J0 : Tpl := ⟨[(0, .val (.list I)), (1, .fn ⟨151, []⟩), (7, .val I), (8, .val I)], [], []⟩
abbrev slices_IndexFunc_int_int_2_vf_impl_isState_1_J1 : Tpl := ⟨[(4, .val I)], [], []⟩
abbrev slices_IndexFunc_int_int_2_vf_impl_isState_1_J2 : Tpl := ⟨[], [], []⟩
abbrev slices_IndexFunc_int_int_2_vf_impl_isState_1_E : Ve.End := ⟨[⟨4, .shr, I, none⟩], []⟩
abbrev slices_IndexFunc_int_int_2_vf_impl_isState_1_a : List ASh := [.val (.list I), .fn 151 []]
abbrev slices_IndexFunc_int_int_2_vf_impl_isState_1_o : List OSh := []
abbrev slices_IndexFunc_int_int_2_vf_impl_isState_1_O0 : Out := .or .ret slices_IndexFunc_int_int_2_vf_impl_isState_1_J1 (.one (.ex 0) slices_IndexFunc_int_int_2_vf_impl_isState_1_J2)
noncomputable def slices_IndexFunc_int_int_2_vf_impl_isState_1_B0 : slices_IndexFunc_int_int_2_vf_impl_isState_1_J0.P → Option (slices_IndexFunc_int_int_2_vf_impl_isState_1_J0.P ⊕ slices_IndexFunc_int_int_2_vf_impl_isState_1_O0.P)
  | ((s, t7, t8, ()), ()) => bif (decide (t8 < t7)) then (guardB (inb t8 (List.length s)) (match impl_isState_1 ((List.getD s (Int.toNat t8) (0 : Int)), ()) () with | some ((r, ()), ()) => (bif r then (some (.inr (.inl ((t8, ()), ())))) else (some (.inl ((s, t7, (w64 (t8 + (1 : Int))), ()), ())))) | none => none)) else (some (.inr (.inr ((), ()))))
noncomputable def slices_IndexFunc_int_int_2_vf_impl_isState_1 : argP slices_IndexFunc_int_int_2_vf_impl_isState_1_a → obP (extObs 0 slices_IndexFunc_int_int_2_vf_impl_isState_1_o) → Option slices_IndexFunc_int_int_2_vf_impl_isState_1_E.P
  | (s, ()), () => match loopO slices_IndexFunc_int_int_2_vf_impl_isState_1_B0 ((s, (List.length s : Int), (0 : Int), ()), ()) with | some (.inl ((t4, ()), ())) => some ((t4, ()), ()) | some (.inr ((), ())) => some (((-1 : Int), ()), ()) | none => none
noncomputable def slices_IndexFunc_int_int_2_vf_impl_isState_1_x : Cx := ⟨tab, impl_isState_1_e, fun _ _ => 0, fun _ => false, [(16, 0), (16, 1), (16, 2), (16, 3)], []⟩
noncomputable def c154 : Code := bodyOf Try.f154
noncomputable def slices_IndexFunc_int_int_2_vf_impl_isState_1_A : Ann := .seq .nil (.seq (.seq .nil (.loop slices_IndexFunc_int_int_2_vf_impl_isState_1_J0 slices_IndexFunc_int_int_2_vf_impl_isState_1_O0 slices_IndexFunc_int_int_2_vf_impl_isState_1_B0 .nil)) .nil)
theorem slices_IndexFunc_int_int_2_vf_impl_isState_1_r0 (p : slices_IndexFunc_int_int_2_vf_impl_isState_1_J0.P) : run slices_IndexFunc_int_int_2_vf_impl_isState_1_x (subc [1, 0, 1, 0, 0] c154) .nil (slices_IndexFunc_int_int_2_vf_impl_isState_1_J0.S p) (leaf slices_IndexFunc_int_int_2_vf_impl_isState_1_J0 slices_IndexFunc_int_int_2_vf_impl_isState_1_O0) = slices_IndexFunc_int_int_2_vf_impl_isState_1_B0 p := by kernel_rfl
noncomputable def slices_IndexFunc_int_int_2_vf_impl_isState_1_D : Ve.Fn := ⟨154, slices_IndexFunc_int_int_2_vf_impl_isState_1_a, slices_IndexFunc_int_int_2_vf_impl_isState_1_o, slices_IndexFunc_int_int_2_vf_impl_isState_1_E, slices_IndexFunc_int_int_2_vf_impl_isState_1⟩
theorem slices_IndexFunc_int_int_2_vf_impl_isState_1_w : Walk Try.prog slices_IndexFunc_int_int_2_vf_impl_isState_1_x slices_IndexFunc_int_int_2_vf_impl_isState_1_D Try.f154 c154 19 slices_IndexFunc_int_int_2_vf_impl_isState_1_A :=
  ⟨⟨Try.func154, by kernel_rfl, by kernel_rfl, by kernel_rfl, by decide, by kernel_rfl, Nat.le_of_ble_eq_true (by kernel_rfl)⟩, by kernel_rfl, by kernel_rfl, by kernel_rfl, kcast (by kernel_rfl) (⟨slices_IndexFunc_int_int_2_vf_impl_isState_1_r0, trivial⟩ : (∀ p, run slices_IndexFunc_int_int_2_vf_impl_isState_1_x (subc [1, 0, 1, 0, 0] c154) .nil (slices_IndexFunc_int_int_2_vf_impl_isState_1_J0.S p) (leaf slices_IndexFunc_int_int_2_vf_impl_isState_1_J0 slices_IndexFunc_int_int_2_vf_impl_isState_1_O0) = slices_IndexFunc_int_int_2_vf_impl_isState_1_B0 p) ∧ True), by kernel_rfl, fun x y => by kernel_rfl⟩
theorem slices_IndexFunc_int_int_2_vf_impl_isState_1_s : slices_IndexFunc_int_int_2_vf_impl_isState_1_D.Says Try.prog := slices_IndexFunc_int_int_2_vf_impl_isState_1_w.says follows tabOk impl_isState_1_e_ok
noncomputable def slices_IndexFunc_int_int_2_vf_impl_isState_1_e : Env := more impl_isState_1_e slices_IndexFunc_int_int_2_vf_impl_isState_1_D
theorem slices_IndexFunc_int_int_2_vf_impl_isState_1_e_ok : EnvOk Try.prog slices_IndexFunc_int_int_2_vf_impl_isState_1_e := more_ok impl_isState_1_e_ok slices_IndexFunc_int_int_2_vf_impl_isState_1_s
/-! slices.ContainsFunc[[]int,int] -/
abbrev slices_ContainsFunc_int_int_2_vf_impl_isState_1_E : Ve.End := ⟨[⟨4, .shr, .bool, none⟩], []⟩
abbrev slices_ContainsFunc_int_int_2_vf_impl_isState_1_a : List ASh := [.val (.list I), .fn 151 []]
abbrev slices_ContainsFunc_int_int_2_vf_impl_isState_1_o : List OSh := []
noncomputable def slices_ContainsFunc_int_int_2_vf_impl_isState_1 : argP slices_ContainsFunc_int_int_2_vf_impl_isState_1_a → obP (extObs 0 slices_ContainsFunc_int_int_2_vf_impl_isState_1_o) → Option slices_ContainsFunc_int_int_2_vf_impl_isState_1_E.P
  | (s, ()), () => match slices_IndexFunc_int_int_2_vf_impl_isState_1 (s, ()) () with | some ((r, ()), ()) => some (((decide ((0 : Int) ≤ r)), ()), ()) | none => none
noncomputable def slices_ContainsFunc_int_int_2_vf_impl_isState_1_x : Cx := ⟨tab, slices_IndexFunc_int_int_2_vf_impl_isState_1_e, fun _ _ => 0, fun _ => false, [(7, 0), (7, 1), (7, 2), (7, 3)], []⟩
noncomputable def c122 : Code := bodyOf Try.f122
noncomputable def slices_ContainsFunc_int_int_2_vf_impl_isState_1_A : Ann := .nil
noncomputable def slices_ContainsFunc_int_int_2_vf_impl_isState_1_D : Ve.Fn := ⟨122, slices_ContainsFunc_int_int_2_vf_impl_isState_1_a, slices_ContainsFunc_int_int_2_vf_impl_isState_1_o, slices_ContainsFunc_int_int_2_vf_impl_isState_1_E, slices_ContainsFunc_int_int_2_vf_impl_isState_1⟩
theorem slices_ContainsFunc_int_int_2_vf_impl_isState_1_w : Walk Try.prog slices_ContainsFunc_int_int_2_vf_impl_isState_1_x slices_ContainsFunc_int_int_2_vf_impl_isState_1_D Try.f122 c122 9 slices_ContainsFunc_int_int_2_vf_impl_isState_1_A :=
  ⟨⟨Try.func122, by kernel_rfl, by kernel_rfl, by kernel_rfl, by decide, by kernel_rfl, Nat.le_of_ble_eq_true (by kernel_rfl)⟩, by kernel_rfl, by kernel_rfl, by kernel_rfl, kcast (by kernel_rfl) trivial, by kernel_rfl, fun x y => by kernel_rfl⟩
theorem slices_ContainsFunc_int_int_2_vf_impl_isState_1_s : slices_ContainsFunc_int_int_2_vf_impl_isState_1_D.Says Try.prog := slices_ContainsFunc_int_int_2_vf_impl_isState_1_w.says follows tabOk slices_IndexFunc_int_int_2_vf_impl_isState_1_e_ok
noncomputable def slices_ContainsFunc_int_int_2_vf_impl_isState_1_e : Env := more slices_IndexFunc_int_int_2_vf_impl_isState_1_e slices_ContainsFunc_int_int_2_vf_impl_isState_1_D
theorem slices_ContainsFunc_int_int_2_vf_impl_isState_1_e_ok : EnvOk Try.prog slices_ContainsFunc_int_int_2_vf_impl_isState_1_e := more_ok slices_IndexFunc_int_int_2_vf_impl_isState_1_e_ok slices_ContainsFunc_int_int_2_vf_impl_isState_1_s
/-! loop.example/g01128/impl.isState -/
abbrev impl_isState_E : Ve.End := ⟨[⟨2, .shr, .bool, none⟩], []⟩
abbrev impl_isState_a : List ASh := [.val (.list I)]
abbrev impl_isState_o : List OSh := []
noncomputable def impl_isState : argP impl_isState_a → obP (extObs 0 impl_isState_o) → Option impl_isState_E.P
  | (state, ()), () => bif (decide ((List.length state : Int) ≤ (24 : Int))) then (match slices_ContainsFunc_int_int_2_vf_impl_isState_1 (state, ()) () with | some ((r, ()), ()) => some (((!r), ()), ()) | none => none) else (some ((false, ()), ()))
noncomputable def impl_isState_x : Cx := ⟨tab, slices_ContainsFunc_int_int_2_vf_impl_isState_1_e, fun _ _ => 0, fun _ => false, [(8, 0), (8, 1), (8, 2), (8, 3)], []⟩
noncomputable def c116 : Code := bodyOf Try.f116
noncomputable def impl_isState_A : Ann := .nil
noncomputable def impl_isState_D : Ve.Fn := ⟨116, impl_isState_a, impl_isState_o, impl_isState_E, impl_isState⟩
theorem impl_isState_w : Walk Try.prog impl_isState_x impl_isState_D Try.f116 c116 11 impl_isState_A :=
  ⟨⟨Try.func116, by kernel_rfl, by kernel_rfl, by kernel_rfl, by decide, by kernel_rfl, Nat.le_of_ble_eq_true (by kernel_rfl)⟩, by kernel_rfl, by kernel_rfl, by kernel_rfl, kcast (by kernel_rfl) trivial, by kernel_rfl, fun x y => by kernel_rfl⟩
theorem impl_isState_s : impl_isState_D.Says Try.prog := impl_isState_w.says follows tabOk slices_ContainsFunc_int_int_2_vf_impl_isState_1_e_ok
noncomputable def impl_isState_e : Env := more slices_ContainsFunc_int_int_2_vf_impl_isState_1_e impl_isState_D
theorem impl_isState_e_ok : EnvOk Try.prog impl_isState_e := more_ok slices_ContainsFunc_int_int_2_vf_impl_isState_1_e_ok impl_isState_s
/-! cmp.isNaN[int] -/
abbrev cmp_isNaN_int_E : Ve.End := ⟨[⟨2, .shr, .bool, none⟩], []⟩
abbrev cmp_isNaN_int_a : List ASh := [.val I]
abbrev cmp_isNaN_int_o : List OSh := []
noncomputable def cmp_isNaN_int : argP cmp_isNaN_int_a → obP (extObs 0 cmp_isNaN_int_o) → Option cmp_isNaN_int_E.P
  | (x, ()), () => some (((x != x), ()), ())
noncomputable def cmp_isNaN_int_x : Cx := ⟨tab, impl_isState_e, fun _ _ => 0, fun _ => false, [], []⟩
noncomputable def c141 : Code := bodyOf Try.f141
noncomputable def cmp_isNaN_int_A : Ann := .nil
noncomputable def cmp_isNaN_int_D : Ve.Fn := ⟨141, cmp_isNaN_int_a, cmp_isNaN_int_o, cmp_isNaN_int_E, cmp_isNaN_int⟩
theorem cmp_isNaN_int_w : Walk Try.prog cmp_isNaN_int_x cmp_isNaN_int_D Try.f141 c141 6 cmp_isNaN_int_A :=
  ⟨⟨Try.func141, by kernel_rfl, by kernel_rfl, by kernel_rfl, by decide, by kernel_rfl, Nat.le_of_ble_eq_true (by kernel_rfl)⟩, by kernel_rfl, by kernel_rfl, by kernel_rfl, kcast (by kernel_rfl) trivial, by kernel_rfl, fun x y => by kernel_rfl⟩
theorem cmp_isNaN_int_s : cmp_isNaN_int_D.Says Try.prog := cmp_isNaN_int_w.says follows tabOk impl_isState_e_ok
noncomputable def cmp_isNaN_int_e : Env := more impl_isState_e cmp_isNaN_int_D
theorem cmp_isNaN_int_e_ok : EnvOk Try.prog cmp_isNaN_int_e := more_ok impl_isState_e_ok cmp_isNaN_int_s
/-! cmp.Compare[int] -/
abbrev cmp_Compare_int_E : Ve.End := ⟨[⟨4, .shr, I, none⟩], []⟩
abbrev cmp_Compare_int_a : List ASh := [.val I, .val I]
abbrev cmp_Compare_int_o : List OSh := []
noncomputable def cmp_Compare_int : argP cmp_Compare_int_a → obP (extObs 0 cmp_Compare_int_o) → Option cmp_Compare_int_E.P
  | (x, y, ()), () => match cmp_isNaN_int (x, ()) () with | some ((r, ()), ()) => (match cmp_isNaN_int (y, ()) () with | some ((r2, ()), ()) => (bif r then (bif r2 then (some (((0 : Int), ()), ())) else (some (((-1 : Int), ()), ()))) else (bif r2 then (some (((1 : Int), ()), ())) else (bif (decide (x < y)) then (some (((-1 : Int), ()), ())) else (bif (decide (y < x)) then (some (((1 : Int), ()), ())) else (some (((0 : Int), ()), ())))))) | none => none) | none => none
noncomputable def cmp_Compare_int_x : Cx := ⟨tab, cmp_isNaN_int_e, fun _ _ => 0, fun _ => false, [(8, 0), (8, 1), (8, 2), (8, 3), (10, 0), (10, 1), (10, 2), (10, 3)], []⟩
noncomputable def c94 : Code := bodyOf Try.f94
noncomputable def cmp_Compare_int_A : Ann := .nil
noncomputable def cmp_Compare_int_D : Ve.Fn := ⟨94, cmp_Compare_int_a, cmp_Compare_int_o, cmp_Compare_int_E, cmp_Compare_int⟩
theorem cmp_Compare_int_w : Walk Try.prog cmp_Compare_int_x cmp_Compare_int_D Try.f94 c94 20 cmp_Compare_int_A :=
  ⟨⟨Try.func94, by kernel_rfl, by kernel_rfl, by kernel_rfl, by decide, by kernel_rfl, Nat.le_of_ble_eq_true (by kernel_rfl)⟩, by kernel_rfl, by kernel_rfl, by kernel_rfl, kcast (by kernel_rfl) trivial, by kernel_rfl, fun x y => by kernel_rfl⟩
theorem cmp_Compare_int_s : cmp_Compare_int_D.Says Try.prog := cmp_Compare_int_w.says follows tabOk cmp_isNaN_int_e_ok
noncomputable def cmp_Compare_int_e : Env := more cmp_isNaN_int_e cmp_Compare_int_D
theorem cmp_Compare_int_e_ok : EnvOk Try.prog cmp_Compare_int_e := more_ok cmp_isNaN_int_e_ok cmp_Compare_int_s
/-! slices.Compare[[]int,int] -/
abbrev slices_Compare_int_int_J0 : Tpl := ⟨[(0, .val (.list I)), (1, .val (.list I)), (9, .val (.list I)), (10, .val I), (11, .val I)], [], []⟩
abbrev slices_Compare_int_int_J1 : Tpl := ⟨[(4, .val I)], [], []⟩
abbrev slices_Compare_int_int_J2 : Tpl := ⟨[(0, .val (.list I)), (1, .val (.list I))], [], []⟩
abbrev slices_Compare_int_int_E : Ve.End := ⟨[⟨4, .shr, I, none⟩], []⟩
abbrev slices_Compare_int_int_a : List ASh := [.val (.list I), .val (.list I)]
abbrev slices_Compare_int_int_o : List OSh := []
abbrev slices_Compare_int_int_O0 : Out := .or .ret slices_Compare_int_int_J1 (.one (.ex 0) slices_Compare_int_int_J2)
noncomputable def slices_Compare_int_int_B0 : slices_Compare_int_int_J0.P → Option (slices_Compare_int_int_J0.P ⊕ slices_Compare_int_int_O0.P)
  | ((s1, s2, t9, t10, t11, ()), ()) => bif (decide (t11 < t10)) then (guardB (inb t11 (List.length t9)) (bif (decide ((List.length s2 : Int) ≤ t11)) then (some (.inr (.inl (((1 : Int), ()), ())))) else (guardB (inb t11 (List.length s2)) (match cmp_Compare_int ((List.getD t9 (Int.toNat t11) (0 : Int)), (List.getD s2 (Int.toNat t11) (0 : Int)), ()) () with | some ((r, ()), ()) => (bif (r != (0 : Int)) then (some (.inr (.inl ((r, ()), ())))) else (some (.inl ((s1, s2, t9, t10, (w64 (t11 + (1 : Int))), ()), ())))) | none => none)))) else (some (.inr (.inr ((s1, s2, ()), ()))))
noncomputable def slices_Compare_int_int : argP slices_Compare_int_int_a → obP (extObs 0 slices_Compare_int_int_o) → Option slices_Compare_int_int_E.P
  | (s1, s2, ()), () => match loopO slices_Compare_int_int_B0 ((s1, s2, s1, (List.length s1 : Int), (0 : Int), ()), ()) with | some (.inl ((t4, ()), ())) => some ((t4, ()), ()) | some (.inr ((s1_2, s2_2, ()), ())) => (bif (decide ((List.length s1_2 : Int) < (List.length s2_2 : Int))) then (some (((-1 : Int), ()), ())) else (some (((0 : Int), ()), ()))) | none => none
noncomputable def slices_Compare_int_int_x : Cx := ⟨tab, cmp_Compare_int_e, fun _ _ => 0, fun _ => false, [(26, 0), (26, 1), (26, 2), (26, 3)], []⟩
noncomputable def c117 : Code := bodyOf Try.f117
noncomputable def slices_Compare_int_int_A : Ann := .seq .nil (.seq (.seq .nil (.loop slices_Compare_int_int_J0 slices_Compare_int_int_O0 slices_Compare_int_int_B0 .nil)) .nil)
theorem slices_Compare_int_int_r0 (p : slices_Compare_int_int_J0.P) : run slices_Compare_int_int_x (subc [1, 0, 1, 0, 0] c117) .nil (slices_Compare_int_int_J0.S p) (leaf slices_Compare_int_int_J0 slices_Compare_int_int_O0) = slices_Compare_int_int_B0 p := by kernel_rfl
noncomputable def slices_Compare_int_int_D : Ve.Fn := ⟨117, slices_Compare_int_int_a, slices_Compare_int_int_o, slices_Compare_int_int_E, slices_Compare_int_int⟩
theorem slices_Compare_int_int_w : Walk Try.prog slices_Compare_int_int_x slices_Compare_int_int_D Try.f117 c117 36 slices_Compare_int_int_A :=
  ⟨⟨Try.func117, by kernel_rfl, by kernel_rfl, by kernel_rfl, by decide, by kernel_rfl, Nat.le_of_ble_eq_true (by kernel_rfl)⟩, by kernel_rfl, by kernel_rfl, by kernel_rfl, kcast (by kernel_rfl) (⟨slices_Compare_int_int_r0, trivial⟩ : (∀ p, run slices_Compare_int_int_x (subc [1, 0, 1, 0, 0] c117) .nil (slices_Compare_int_int_J0.S p) (leaf slices_Compare_int_int_J0 slices_Compare_int_int_O0) = slices_Compare_int_int_B0 p) ∧ True), by kernel_rfl, fun x y => by kernel_rfl⟩
theorem slices_Compare_int_int_s : slices_Compare_int_int_D.Says Try.prog := slices_Compare_int_int_w.says follows tabOk cmp_Compare_int_e_ok
noncomputable def slices_Compare_int_int_e : Env := more cmp_Compare_int_e slices_Compare_int_int_D
theorem slices_Compare_int_int_e_ok : EnvOk Try.prog slices_Compare_int_int_e := more_ok cmp_Compare_int_e_ok slices_Compare_int_int_s
/-! cmp.Or[int] -/
abbrev cmp_Or_int_J0 : Tpl := ⟨[(3, .val I), (6, .val (.list I)), (7, .val I), (8, .val I)], [], []⟩
abbrev cmp_Or_int_J1 : Tpl := ⟨[(2, .val I)], [], []⟩
abbrev cmp_Or_int_J2 : Tpl := ⟨[(3, .val I)], [], []⟩
abbrev cmp_Or_int_E : Ve.End := ⟨[⟨2, .shr, I, none⟩], []⟩
abbrev cmp_Or_int_a : List ASh := [.val (.list I)]
abbrev cmp_Or_int_o : List OSh := []
abbrev cmp_Or_int_O0 : Out := .or .ret cmp_Or_int_J1 (.one (.ex 0) cmp_Or_int_J2)
noncomputable def cmp_Or_int_B0 : cmp_Or_int_J0.P → Option (cmp_Or_int_J0.P ⊕ cmp_Or_int_O0.P)
  | ((zero_, t6, t7, t8, ()), ()) => bif (decide (t8 < t7)) then (guardB (inb t8 (List.length t6)) (bif ((List.getD t6 (Int.toNat t8) (0 : Int)) != zero_) then (some (.inr (.inl (((List.getD t6 (Int.toNat t8) (0 : Int)), ()), ())))) else (some (.inl ((zero_, t6, t7, (w64 (t8 + (1 : Int))), ()), ()))))) else (some (.inr (.inr ((zero_, ()), ()))))
noncomputable def cmp_Or_int : argP cmp_Or_int_a → obP (extObs 0 cmp_Or_int_o) → Option cmp_Or_int_E.P
  | (vals, ()), () => match loopO cmp_Or_int_B0 (((0 : Int), vals, (List.length vals : Int), (0 : Int), ()), ()) with | some (.inl ((t2, ()), ())) => some ((t2, ()), ()) | some (.inr ((zero_, ()), ())) => some ((zero_, ()), ()) | none => none
noncomputable def cmp_Or_int_x : Cx := ⟨tab, slices_Compare_int_int_e, fun _ _ => 0, fun _ => false, [], []⟩
noncomputable def c157 : Code := bodyOf Try.f157
noncomputable def cmp_Or_int_A : Ann := .seq .nil (.seq .nil (.seq (.seq .nil (.loop cmp_Or_int_J0 cmp_Or_int_O0 cmp_Or_int_B0 .nil)) .nil))
theorem cmp_Or_int_r0 (p : cmp_Or_int_J0.P) : run cmp_Or_int_x (subc [1, 1, 0, 1, 0, 0] c157) .nil (cmp_Or_int_J0.S p) (leaf cmp_Or_int_J0 cmp_Or_int_O0) = cmp_Or_int_B0 p := by kernel_rfl
noncomputable def cmp_Or_int_D : Ve.Fn := ⟨157, cmp_Or_int_a, cmp_Or_int_o, cmp_Or_int_E, cmp_Or_int⟩
theorem cmp_Or_int_w : Walk Try.prog cmp_Or_int_x cmp_Or_int_D Try.f157 c157 18 cmp_Or_int_A :=
  ⟨⟨Try.func157, by kernel_rfl, by kernel_rfl, by kernel_rfl, by decide, by kernel_rfl, Nat.le_of_ble_eq_true (by kernel_rfl)⟩, by kernel_rfl, by kernel_rfl, by kernel_rfl, kcast (by kernel_rfl) (⟨cmp_Or_int_r0, trivial⟩ : (∀ p, run cmp_Or_int_x (subc [1, 1, 0, 1, 0, 0] c157) .nil (cmp_Or_int_J0.S p) (leaf cmp_Or_int_J0 cmp_Or_int_O0) = cmp_Or_int_B0 p) ∧ True), by kernel_rfl, fun x y => by kernel_rfl⟩
theorem cmp_Or_int_s : cmp_Or_int_D.Says Try.prog := cmp_Or_int_w.says follows tabOk slices_Compare_int_int_e_ok
noncomputable def cmp_Or_int_e : Env := more slices_Compare_int_int_e cmp_Or_int_D
theorem cmp_Or_int_e_ok : EnvOk Try.prog cmp_Or_int_e := more_ok slices_Compare_int_int_e_ok cmp_Or_int_s
/-! loop.example/g01128/impl.comparePairs -/
abbrev impl_comparePairs_E : Ve.End := ⟨[⟨4, .shr, I, none⟩], []⟩
abbrev impl_comparePairs_a : List ASh := [.val (.prod I I), .val (.prod I I)]
abbrev impl_comparePairs_o : List OSh := []
noncomputable def impl_comparePairs : argP impl_comparePairs_a → obP (extObs 0 impl_comparePairs_o) → Option impl_comparePairs_E.P
  | (a, b, ()), () => match cmp_Compare_int (a.1, b.1, ()) () with | some ((r, ()), ()) => (match cmp_Compare_int (a.2, b.2, ()) () with | some ((r2, ()), ()) => (match cmp_Or_int ([r, r2], ()) () with | some ((r3, ()), ()) => some ((r3, ()), ()) | none => none) | none => none) | none => none
noncomputable def impl_comparePairs_x : Cx := ⟨tab, cmp_Or_int_e, fun _ _ => 0, fun _ => false, [(9, 0), (9, 1), (9, 2), (9, 3), (14, 0), (14, 1), (14, 2), (14, 3), (15, 0), (16, 0), (16, 1), (16, 2), (16, 3)], [(2, 0), (3, 0)]⟩
noncomputable def c137 : Code := bodyOf Try.f137
noncomputable def impl_comparePairs_A : Ann := .seq .nil (.seq (.draw [(0, .flo), (1, .flo), (2, .flo), (3, .flo), (5, .flo), (6, .flo), (7, .flo), (8, .flo), (4, .sole), (9, .sole), (10, .sole), (11, .sole), (12, .flo)]) .nil)
noncomputable def impl_comparePairs_D : Ve.Fn := ⟨137, impl_comparePairs_a, impl_comparePairs_o, impl_comparePairs_E, impl_comparePairs⟩
theorem impl_comparePairs_w : Walk Try.prog impl_comparePairs_x impl_comparePairs_D Try.f137 c137 17 impl_comparePairs_A :=
  ⟨⟨Try.func137, by kernel_rfl, by kernel_rfl, by kernel_rfl, by decide, by kernel_rfl, Nat.le_of_ble_eq_true (by kernel_rfl)⟩, by kernel_rfl, by kernel_rfl, by kernel_rfl, kcast (by kernel_rfl) trivial, by kernel_rfl, fun x y => by kernel_rfl⟩
theorem impl_comparePairs_s : impl_comparePairs_D.Says Try.prog := impl_comparePairs_w.says follows tabOk cmp_Or_int_e_ok
noncomputable def impl_comparePairs_e : Env := more cmp_Or_int_e impl_comparePairs_D
theorem impl_comparePairs_e_ok : EnvOk Try.prog impl_comparePairs_e := more_ok cmp_Or_int_e_ok impl_comparePairs_s
/-! loop.example/g01128/impl.isPairs -/
abbrev impl_isPairs_J0 : Tpl := ⟨[(0, .val (.list (.prod I I))), (1, .val I), (7, .val (.list (.prod I I))), (8, .val I), (9, .val I)], [], []⟩
abbrev impl_isPairs_J1 : Tpl := ⟨[(4, .val .bool)], [], []⟩
abbrev impl_isPairs_J2 : Tpl := ⟨[], [], []⟩
abbrev impl_isPairs_E : Ve.End := ⟨[⟨4, .shr, .bool, none⟩], []⟩
abbrev impl_isPairs_a : List ASh := [.val (.list (.prod I I)), .val I]
abbrev impl_isPairs_o : List OSh := []
abbrev impl_isPairs_O0 : Out := .or .ret impl_isPairs_J1 (.one (.ex 0) impl_isPairs_J2)
noncomputable def impl_isPairs_B0 : impl_isPairs_J0.P → Option (impl_isPairs_J0.P ⊕ impl_isPairs_O0.P)
  | ((list, below, t7, t8, t9, ()), ()) => bif (decide (t9 < t8)) then (guardB (inb t9 (List.length t7)) (bif (decide (((List.getD t7 (Int.toNat t9) ((0 : Int), (0 : Int))).1) < (0 : Int))) then (some (.inr (.inl ((false, ()), ())))) else (bif (decide (((List.getD t7 (Int.toNat t9) ((0 : Int), (0 : Int))).2) ≤ ((List.getD t7 (Int.toNat t9) ((0 : Int), (0 : Int))).1))) then (some (.inr (.inl ((false, ()), ())))) else (bif (decide (below ≤ ((List.getD t7 (Int.toNat t9) ((0 : Int), (0 : Int))).2))) then (some (.inr (.inl ((false, ()), ())))) else (bif (decide ((0 : Int) < t9)) then (guardB (inb (w64 (t9 - (1 : Int))) (List.length list)) (match impl_comparePairs ((List.getD list (Int.toNat (w64 (t9 - (1 : Int)))) ((0 : Int), (0 : Int))), (List.getD t7 (Int.toNat t9) ((0 : Int), (0 : Int))), ()) () with | some ((r, ()), ()) => (bif (decide ((0 : Int) ≤ r)) then (some (.inr (.inl ((false, ()), ())))) else (some (.inl ((list, below, t7, t8, (w64 (t9 + (1 : Int))), ()), ())))) | none => none)) else (some (.inl ((list, below, t7, t8, (w64 (t9 + (1 : Int))), ()), ())))))))) else (some (.inr (.inr ((), ()))))
noncomputable def impl_isPairs : argP impl_isPairs_a → obP (extObs 0 impl_isPairs_o) → Option impl_isPairs_E.P
  | (list, below, ()), () => match loopO impl_isPairs_B0 ((list, below, list, (List.length list : Int), (0 : Int), ()), ()) with | some (.inl ((t4, ()), ())) => some ((t4, ()), ()) | some (.inr ((), ())) => some ((true, ()), ()) | none => none
noncomputable def impl_isPairs_x : Cx := ⟨tab, impl_comparePairs_e, fun _ _ => 0, fun _ => false, [(40, 0), (40, 1), (40, 2), (40, 3)], [(6, 0)]⟩
noncomputable def c118 : Code := bodyOf Try.f118
noncomputable def impl_isPairs_A : Ann := .seq .nil (.seq (.seq .nil (.loop impl_isPairs_J0 impl_isPairs_O0 impl_isPairs_B0 (.seq .nil (.seq .nil (.seq (.seq .nil (.seq (.draw [(0, .flo), (1, .flo), (2, .flo), (3, .flo), (4, .flo), (6, .flo), (5, .qui), (7, .qui), (8, .flo), (9, .flo), (10, .flo), (11, .flo), (13, .flo), (12, .qui), (14, .flo), (15, .flo), (16, .flo), (17, .flo), (18, .flo), (19, .flo), (20, .flo), (21, .flo), (22, .flo), (23, .flo), (24, .qui), (25, .qui), (26, .sole), (27, .flo), (28, .flo), (29, .flo)]) .nil)) .nil))))) .nil)
theorem impl_isPairs_r0 (p : impl_isPairs_J0.P) : run impl_isPairs_x (subc [1, 0, 1, 0, 0] c118) (.seq .nil (.seq .nil (.seq (.seq .nil (.seq (.draw [(0, .flo), (1, .flo), (2, .flo), (3, .flo), (4, .flo), (6, .flo), (5, .qui), (7, .qui), (8, .flo), (9, .flo), (10, .flo), (11, .flo), (13, .flo), (12, .qui), (14, .flo), (15, .flo), (16, .flo), (17, .flo), (18, .flo), (19, .flo), (20, .flo), (21, .flo), (22, .flo), (23, .flo), (24, .qui), (25, .qui), (26, .sole), (27, .flo), (28, .flo), (29, .flo)]) .nil)) .nil))) (impl_isPairs_J0.S p) (leaf impl_isPairs_J0 impl_isPairs_O0) = impl_isPairs_B0 p := by kernel_rfl
noncomputable def impl_isPairs_D : Ve.Fn := ⟨118, impl_isPairs_a, impl_isPairs_o, impl_isPairs_E, impl_isPairs⟩
theorem impl_isPairs_w : Walk Try.prog impl_isPairs_x impl_isPairs_D Try.f118 c118 45 impl_isPairs_A :=
  ⟨⟨Try.func118, by kernel_rfl, by kernel_rfl, by kernel_rfl, by decide, by kernel_rfl, Nat.le_of_ble_eq_true (by kernel_rfl)⟩, by kernel_rfl, by kernel_rfl, by kernel_rfl, kcast (by kernel_rfl) (⟨impl_isPairs_r0, trivial⟩ : (∀ p, run impl_isPairs_x (subc [1, 0, 1, 0, 0] c118) (.seq .nil (.seq .nil (.seq (.seq .nil (.seq (.draw [(0, .flo), (1, .flo), (2, .flo), (3, .flo), (4, .flo), (6, .flo), (5, .qui), (7, .qui), (8, .flo), (9, .flo), (10, .flo), (11, .flo), (13, .flo), (12, .qui), (14, .flo), (15, .flo), (16, .flo), (17, .flo), (18, .flo), (19, .flo), (20, .flo), (21, .flo), (22, .flo), (23, .flo), (24, .qui), (25, .qui), (26, .sole), (27, .flo), (28, .flo), (29, .flo)]) .nil)) .nil))) (impl_isPairs_J0.S p) (leaf impl_isPairs_J0 impl_isPairs_O0) = impl_isPairs_B0 p) ∧ True), by kernel_rfl, fun x y => by kernel_rfl⟩
theorem impl_isPairs_s : impl_isPairs_D.Says Try.prog := impl_isPairs_w.says follows tabOk impl_comparePairs_e_ok
noncomputable def impl_isPairs_e : Env := more impl_comparePairs_e impl_isPairs_D
theorem impl_isPairs_e_ok : EnvOk Try.prog impl_isPairs_e := more_ok impl_comparePairs_e_ok impl_isPairs_s
/-! loop.example/g01128/impl.IsSpace -/
abbrev impl_IsSpace_J0 : Tpl := ⟨[(1, .cst (.prod (.list (.list I)) (.list (.prod I I)))), (16, .val (.list (.list I))), (17, .val I), (18, .val I)], [], []⟩
abbrev impl_IsSpace_J1 : Tpl := ⟨[(2, .val .bool)], [], []⟩
abbrev impl_IsSpace_J2 : Tpl := ⟨[(1, .cst (.prod (.list (.list I)) (.list (.prod I I))))], [], []⟩
abbrev impl_IsSpace_E : Ve.End := ⟨[⟨2, .shr, .bool, none⟩], []⟩
abbrev impl_IsSpace_a : List ASh := [.val (.prod (.list (.list I)) (.list (.prod I I)))]
abbrev impl_IsSpace_o : List OSh := []
abbrev impl_IsSpace_O0 : Out := .or .ret impl_IsSpace_J1 (.one (.ex 0) impl_IsSpace_J2)
noncomputable def impl_IsSpace_B0 : impl_IsSpace_J0.P → Option (impl_IsSpace_J0.P ⊕ impl_IsSpace_O0.P)
  | ((x, t16, t17, t18, ()), ()) => bif (decide (t18 < t17)) then (guardB (inb t18 (List.length t16)) (match impl_isState ((List.getD t16 (Int.toNat t18) ([] : (List Int))), ()) () with | some ((r, ()), ()) => (bif (!r) then (some (.inr (.inl ((false, ()), ())))) else (bif (decide ((0 : Int) < t18)) then (guardB (inb (w64 (t18 - (1 : Int))) (List.length x.1)) (match slices_Compare_int_int ((List.getD x.1 (Int.toNat (w64 (t18 - (1 : Int)))) ([] : (List Int))), (List.getD t16 (Int.toNat t18) ([] : (List Int))), ()) () with | some ((r2, ()), ()) => (bif (decide ((0 : Int) ≤ r2)) then (some (.inr (.inl ((false, ()), ())))) else (some (.inl ((x, t16, t17, (w64 (t18 + (1 : Int))), ()), ())))) | none => none)) else (some (.inl ((x, t16, t17, (w64 (t18 + (1 : Int))), ()), ()))))) | none => none)) else (some (.inr (.inr ((x, ()), ()))))
noncomputable def impl_IsSpace : argP impl_IsSpace_a → obP (extObs 0 impl_IsSpace_o) → Option impl_IsSpace_E.P
  | (x, ()), () => bif (decide ((300 : Int) < (List.length x.1 : Int))) then (some ((false, ()), ())) else (bif (decide ((6000 : Int) < (List.length x.2 : Int))) then (some ((false, ()), ())) else (match loopO impl_IsSpace_B0 ((x, x.1, (List.length x.1 : Int), (0 : Int), ()), ()) with | some (.inl ((t2, ()), ())) => some ((t2, ()), ()) | some (.inr ((x2, ()), ())) => (match impl_isPairs (x2.2, (List.length x2.1 : Int), ()) () with | some ((r, ()), ()) => some ((r, ()), ()) | none => none) | none => none))
noncomputable def impl_IsSpace_x : Cx := ⟨tab, impl_isPairs_e, fun _ _ => 0, fun _ => false, [(4, 0), (24, 0), (24, 1), (24, 2), (24, 3), (37, 0), (37, 1), (37, 2), (37, 3), (47, 0), (47, 1), (47, 2), (47, 3)], [(1, 0)]⟩
noncomputable def c56 : Code := bodyOf Try.f56
noncomputable def impl_IsSpace_A : Ann := .seq .nil (.seq .nil (.seq (.seq .nil (.loop impl_IsSpace_J0 impl_IsSpace_O0 impl_IsSpace_B0 .nil)) .nil))
theorem impl_IsSpace_r0 (p : impl_IsSpace_J0.P) : run impl_IsSpace_x (subc [1, 1, 0, 1, 0, 0] c56) .nil (impl_IsSpace_J0.S p) (leaf impl_IsSpace_J0 impl_IsSpace_O0) = impl_IsSpace_B0 p := by kernel_rfl
noncomputable def impl_IsSpace_D : Ve.Fn := ⟨56, impl_IsSpace_a, impl_IsSpace_o, impl_IsSpace_E, impl_IsSpace⟩
theorem impl_IsSpace_w : Walk Try.prog impl_IsSpace_x impl_IsSpace_D Try.f56 c56 48 impl_IsSpace_A :=
  ⟨⟨Try.func56, by kernel_rfl, by kernel_rfl, by kernel_rfl, by decide, by kernel_rfl, Nat.le_of_ble_eq_true (by kernel_rfl)⟩, by kernel_rfl, by kernel_rfl, by kernel_rfl, kcast (by kernel_rfl) (⟨impl_IsSpace_r0, trivial⟩ : (∀ p, run impl_IsSpace_x (subc [1, 1, 0, 1, 0, 0] c56) .nil (impl_IsSpace_J0.S p) (leaf impl_IsSpace_J0 impl_IsSpace_O0) = impl_IsSpace_B0 p) ∧ True), by kernel_rfl, fun x y => by kernel_rfl⟩
theorem impl_IsSpace_s : impl_IsSpace_D.Says Try.prog := impl_IsSpace_w.says follows tabOk impl_isPairs_e_ok
noncomputable def impl_IsSpace_e : Env := more impl_isPairs_e impl_IsSpace_D
theorem impl_IsSpace_e_ok : EnvOk Try.prog impl_IsSpace_e := more_ok impl_isPairs_e_ok impl_IsSpace_s
/-! loop.example/g01128/impl.areLoads$1 -/
abbrev impl_areLoads_1_E : Ve.End := ⟨[⟨2, .shr, .bool, none⟩], []⟩
abbrev impl_areLoads_1_a : List ASh := [.val I]
abbrev impl_areLoads_1_o : List OSh := []
noncomputable def impl_areLoads_1 : argP impl_areLoads_1_a → obP (extObs 0 impl_areLoads_1_o) → Option impl_areLoads_1_E.P
  | (n, ()), () => match impl_between (n, (0 : Int), (999 : Int), ()) () with | some ((r, ()), ()) => some (((!r), ()), ()) | none => none
noncomputable def impl_areLoads_1_x : Cx := ⟨tab, impl_IsSpace_e, fun _ _ => 0, fun _ => false, [(4, 0), (4, 1), (4, 2), (4, 3)], []⟩
noncomputable def c155 : Code := bodyOf Try.f155
noncomputable def impl_areLoads_1_A : Ann := .nil
noncomputable def impl_areLoads_1_D : Ve.Fn := ⟨155, impl_areLoads_1_a, impl_areLoads_1_o, impl_areLoads_1_E, impl_areLoads_1⟩
theorem impl_areLoads_1_w : Walk Try.prog impl_areLoads_1_x impl_areLoads_1_D Try.f155 c155 6 impl_areLoads_1_A :=
  ⟨⟨Try.func155, by kernel_rfl, by kernel_rfl, by kernel_rfl, by decide, by kernel_rfl, Nat.le_of_ble_eq_true (by kernel_rfl)⟩, by kernel_rfl, by kernel_rfl, by kernel_rfl, kcast (by kernel_rfl) trivial, by kernel_rfl, fun x y => by kernel_rfl⟩
theorem impl_areLoads_1_s : impl_areLoads_1_D.Says Try.prog := impl_areLoads_1_w.says follows tabOk impl_IsSpace_e_ok
noncomputable def impl_areLoads_1_e : Env := more impl_IsSpace_e impl_areLoads_1_D
theorem impl_areLoads_1_e_ok : EnvOk Try.prog impl_areLoads_1_e := more_ok impl_IsSpace_e_ok impl_areLoads_1_s
/-! slices.IndexFunc[[]int,int] -/
abbrev slices_IndexFunc_int_int_2_vf_impl_areLoads_1_J0 : Tpl := ⟨[(0, .val (.list I)), (1, .fn ⟨155, []⟩), (7, .val I), (8, .val I)], [], []⟩
abbrev slices_IndexFunc_int_int_2_vf_impl_areLoads_1_J1 : Tpl := ⟨[(4, .val I)], [], []⟩
abbrev slices_IndexFunc_int_int_2_vf_impl_areLoads_1_J2 : Tpl := ⟨[], [], []⟩
abbrev slices_IndexFunc_int_int_2_vf_impl_areLoads_1_E : Ve.End := ⟨[⟨4, .shr, I, none⟩], []⟩
abbrev slices_IndexFunc_int_int_2_vf_impl_areLoads_1_a : List ASh := [.val (.list I), .fn 155 []]
abbrev slices_IndexFunc_int_int_2_vf_impl_areLoads_1_o : List OSh := []
abbrev slices_IndexFunc_int_int_2_vf_impl_areLoads_1_O0 : Out := .or .ret slices_IndexFunc_int_int_2_vf_impl_areLoads_1_J1 (.one (.ex 0) slices_IndexFunc_int_int_2_vf_impl_areLoads_1_J2)
noncomputable def slices_IndexFunc_int_int_2_vf_impl_areLoads_1_B0 : slices_IndexFunc_int_int_2_vf_impl_areLoads_1_J0.P → Option (slices_IndexFunc_int_int_2_vf_impl_areLoads_1_J0.P ⊕ slices_IndexFunc_int_int_2_vf_impl_areLoads_1_O0.P)
  | ((s, t7, t8, ()), ()) => bif (decide (t8 < t7)) then (guardB (inb t8 (List.length s)) (match impl_areLoads_1 ((List.getD s (Int.toNat t8) (0 : Int)), ()) () with | some ((r, ()), ()) => (bif r then (some (.inr (.inl ((t8, ()), ())))) else (some (.inl ((s, t7, (w64 (t8 + (1 : Int))), ()), ())))) | none => none)) else (some (.inr (.inr ((), ()))))
noncomputable def slices_IndexFunc_int_int_2_vf_impl_areLoads_1 : argP slices_IndexFunc_int_int_2_vf_impl_areLoads_1_a → obP (extObs 0 slices_IndexFunc_int_int_2_vf_impl_areLoads_1_o) → Option slices_IndexFunc_int_int_2_vf_impl_areLoads_1_E.P
  | (s, ()), () => match loopO slices_IndexFunc_int_int_2_vf_impl_areLoads_1_B0 ((s, (List.length s : Int), (0 : Int), ()), ()) with | some (.inl ((t4, ()), ())) => some ((t4, ()), ()) | some (.inr ((), ())) => some (((-1 : Int), ()), ()) | none => none
noncomputable def slices_IndexFunc_int_int_2_vf_impl_areLoads_1_x : Cx := ⟨tab, impl_areLoads_1_e, fun _ _ => 0, fun _ => false, [(16, 0), (16, 1), (16, 2), (16, 3)], []⟩
noncomputable def slices_IndexFunc_int_int_2_vf_impl_areLoads_1_A : Ann := .seq .nil (.seq (.seq .nil (.loop slices_IndexFunc_int_int_2_vf_impl_areLoads_1_J0 slices_IndexFunc_int_int_2_vf_impl_areLoads_1_O0 slices_IndexFunc_int_int_2_vf_impl_areLoads_1_B0 .nil)) .nil)
theorem slices_IndexFunc_int_int_2_vf_impl_areLoads_1_r0 (p : slices_IndexFunc_int_int_2_vf_impl_areLoads_1_J0.P) : run slices_IndexFunc_int_int_2_vf_impl_areLoads_1_x (subc [1, 0, 1, 0, 0] c154) .nil (slices_IndexFunc_int_int_2_vf_impl_areLoads_1_J0.S p) (leaf slices_IndexFunc_int_int_2_vf_impl_areLoads_1_J0 slices_IndexFunc_int_int_2_vf_impl_areLoads_1_O0) = slices_IndexFunc_int_int_2_vf_impl_areLoads_1_B0 p := by kernel_rfl
noncomputable def slices_IndexFunc_int_int_2_vf_impl_areLoads_1_D : Ve.Fn := ⟨154, slices_IndexFunc_int_int_2_vf_impl_areLoads_1_a, slices_IndexFunc_int_int_2_vf_impl_areLoads_1_o, slices_IndexFunc_int_int_2_vf_impl_areLoads_1_E, slices_IndexFunc_int_int_2_vf_impl_areLoads_1⟩
theorem slices_IndexFunc_int_int_2_vf_impl_areLoads_1_w : Walk Try.prog slices_IndexFunc_int_int_2_vf_impl_areLoads_1_x slices_IndexFunc_int_int_2_vf_impl_areLoads_1_D Try.f154 c154 19 slices_IndexFunc_int_int_2_vf_impl_areLoads_1_A :=
  ⟨⟨Try.func154, by kernel_rfl, by kernel_rfl, by kernel_rfl, by decide, by kernel_rfl, Nat.le_of_ble_eq_true (by kernel_rfl)⟩, by kernel_rfl, by kernel_rfl, by kernel_rfl, kcast (by kernel_rfl) (⟨slices_IndexFunc_int_int_2_vf_impl_areLoads_1_r0, trivial⟩ : (∀ p, run slices_IndexFunc_int_int_2_vf_impl_areLoads_1_x (subc [1, 0, 1, 0, 0] c154) .nil (slices_IndexFunc_int_int_2_vf_impl_areLoads_1_J0.S p) (leaf slices_IndexFunc_int_int_2_vf_impl_areLoads_1_J0 slices_IndexFunc_int_int_2_vf_impl_areLoads_1_O0) = slices_IndexFunc_int_int_2_vf_impl_areLoads_1_B0 p) ∧ True), by kernel_rfl, fun x y => by kernel_rfl⟩
theorem slices_IndexFunc_int_int_2_vf_impl_areLoads_1_s : slices_IndexFunc_int_int_2_vf_impl_areLoads_1_D.Says Try.prog := slices_IndexFunc_int_int_2_vf_impl_areLoads_1_w.says follows tabOk impl_areLoads_1_e_ok
noncomputable def slices_IndexFunc_int_int_2_vf_impl_areLoads_1_e : Env := more impl_areLoads_1_e slices_IndexFunc_int_int_2_vf_impl_areLoads_1_D
theorem slices_IndexFunc_int_int_2_vf_impl_areLoads_1_e_ok : EnvOk Try.prog slices_IndexFunc_int_int_2_vf_impl_areLoads_1_e := more_ok impl_areLoads_1_e_ok slices_IndexFunc_int_int_2_vf_impl_areLoads_1_s
/-! slices.ContainsFunc[[]int,int] -/
abbrev slices_ContainsFunc_int_int_2_vf_impl_areLoads_1_E : Ve.End := ⟨[⟨4, .shr, .bool, none⟩], []⟩
abbrev slices_ContainsFunc_int_int_2_vf_impl_areLoads_1_a : List ASh := [.val (.list I), .fn 155 []]
abbrev slices_ContainsFunc_int_int_2_vf_impl_areLoads_1_o : List OSh := []
noncomputable def slices_ContainsFunc_int_int_2_vf_impl_areLoads_1 : argP slices_ContainsFunc_int_int_2_vf_impl_areLoads_1_a → obP (extObs 0 slices_ContainsFunc_int_int_2_vf_impl_areLoads_1_o) → Option slices_ContainsFunc_int_int_2_vf_impl_areLoads_1_E.P
  | (s, ()), () => match slices_IndexFunc_int_int_2_vf_impl_areLoads_1 (s, ()) () with | some ((r, ()), ()) => some (((decide ((0 : Int) ≤ r)), ()), ()) | none => none
noncomputable def slices_ContainsFunc_int_int_2_vf_impl_areLoads_1_x : Cx := ⟨tab, slices_IndexFunc_int_int_2_vf_impl_areLoads_1_e, fun _ _ => 0, fun _ => false, [(7, 0), (7, 1), (7, 2), (7, 3)], []⟩
noncomputable def slices_ContainsFunc_int_int_2_vf_impl_areLoads_1_A : Ann := .nil
noncomputable def slices_ContainsFunc_int_int_2_vf_impl_areLoads_1_D : Ve.Fn := ⟨122, slices_ContainsFunc_int_int_2_vf_impl_areLoads_1_a, slices_ContainsFunc_int_int_2_vf_impl_areLoads_1_o, slices_ContainsFunc_int_int_2_vf_impl_areLoads_1_E, slices_ContainsFunc_int_int_2_vf_impl_areLoads_1⟩
theorem slices_ContainsFunc_int_int_2_vf_impl_areLoads_1_w : Walk Try.prog slices_ContainsFunc_int_int_2_vf_impl_areLoads_1_x slices_ContainsFunc_int_int_2_vf_impl_areLoads_1_D Try.f122 c122 9 slices_ContainsFunc_int_int_2_vf_impl_areLoads_1_A :=
  ⟨⟨Try.func122, by kernel_rfl, by kernel_rfl, by kernel_rfl, by decide, by kernel_rfl, Nat.le_of_ble_eq_true (by kernel_rfl)⟩, by kernel_rfl, by kernel_rfl, by kernel_rfl, kcast (by kernel_rfl) trivial, by kernel_rfl, fun x y => by kernel_rfl⟩
theorem slices_ContainsFunc_int_int_2_vf_impl_areLoads_1_s : slices_ContainsFunc_int_int_2_vf_impl_areLoads_1_D.Says Try.prog := slices_ContainsFunc_int_int_2_vf_impl_areLoads_1_w.says follows tabOk slices_IndexFunc_int_int_2_vf_impl_areLoads_1_e_ok
noncomputable def slices_ContainsFunc_int_int_2_vf_impl_areLoads_1_e : Env := more slices_IndexFunc_int_int_2_vf_impl_areLoads_1_e slices_ContainsFunc_int_int_2_vf_impl_areLoads_1_D
theorem slices_ContainsFunc_int_int_2_vf_impl_areLoads_1_e_ok : EnvOk Try.prog slices_ContainsFunc_int_int_2_vf_impl_areLoads_1_e := more_ok slices_IndexFunc_int_int_2_vf_impl_areLoads_1_e_ok slices_ContainsFunc_int_int_2_vf_impl_areLoads_1_s
/-! loop.example/g01128/impl.areLoads -/
abbrev impl_areLoads_E : Ve.End := ⟨[⟨4, .shr, .bool, none⟩], []⟩
abbrev impl_areLoads_a : List ASh := [.val (.list I), .val I]
abbrev impl_areLoads_o : List OSh := []
noncomputable def impl_areLoads : argP impl_areLoads_a → obP (extObs 0 impl_areLoads_o) → Option impl_areLoads_E.P
  | (list, many, ()), () => bif ((List.length list : Int) == many) then (match slices_ContainsFunc_int_int_2_vf_impl_areLoads_1 (list, ()) () with | some ((r, ()), ()) => some (((!r), ()), ()) | none => none) else (some ((false, ()), ()))
noncomputable def impl_areLoads_x : Cx := ⟨tab, slices_ContainsFunc_int_int_2_vf_impl_areLoads_1_e, fun _ _ => 0, fun _ => false, [(11, 0), (11, 1), (11, 2), (11, 3)], []⟩
noncomputable def c129 : Code := bodyOf Try.f129
noncomputable def impl_areLoads_A : Ann := .nil
noncomputable def impl_areLoads_D : Ve.Fn := ⟨129, impl_areLoads_a, impl_areLoads_o, impl_areLoads_E, impl_areLoads⟩
theorem impl_areLoads_w : Walk Try.prog impl_areLoads_x impl_areLoads_D Try.f129 c129 14 impl_areLoads_A :=
  ⟨⟨Try.func129, by kernel_rfl, by kernel_rfl, by kernel_rfl, by decide, by kernel_rfl, Nat.le_of_ble_eq_true (by kernel_rfl)⟩, by kernel_rfl, by kernel_rfl, by kernel_rfl, kcast (by kernel_rfl) trivial, by kernel_rfl, fun x y => by kernel_rfl⟩
theorem impl_areLoads_s : impl_areLoads_D.Says Try.prog := impl_areLoads_w.says follows tabOk slices_ContainsFunc_int_int_2_vf_impl_areLoads_1_e_ok
noncomputable def impl_areLoads_e : Env := more slices_ContainsFunc_int_int_2_vf_impl_areLoads_1_e impl_areLoads_D
theorem impl_areLoads_e_ok : EnvOk Try.prog impl_areLoads_e := more_ok slices_ContainsFunc_int_int_2_vf_impl_areLoads_1_e_ok impl_areLoads_s
/-! loop.example/g01128/impl.isWeighed -/
abbrev impl_isWeighed_E : Ve.End := ⟨[⟨4, .shr, .bool, none⟩], []⟩
abbrev impl_isWeighed_a : List ASh := [.val (.prod (.list (.list I)) (.list (.prod I I))), .val (.list I)]
abbrev impl_isWeighed_o : List OSh := []
noncomputable def impl_isWeighed : argP impl_isWeighed_a → obP (extObs 0 impl_isWeighed_o) → Option impl_isWeighed_E.P
  | (x, weights, ()), () => match impl_IsSpace (x, ()) () with | some ((r, ()), ()) => (bif r then (match impl_areLoads (weights, (List.length x.2 : Int), ()) () with | some ((r2, ()), ()) => some ((r2, ()), ()) | none => none) else (some ((false, ()), ()))) | none => none
noncomputable def impl_isWeighed_x : Cx := ⟨tab, impl_areLoads_e, fun _ _ => 0, fun _ => false, [(6, 0), (6, 1), (6, 2), (6, 3), (12, 0), (12, 1), (12, 2), (12, 3)], [(2, 0)]⟩
noncomputable def c73 : Code := bodyOf Try.f73
noncomputable def impl_isWeighed_A : Ann := .nil
noncomputable def impl_isWeighed_D : Ve.Fn := ⟨73, impl_isWeighed_a, impl_isWeighed_o, impl_isWeighed_E, impl_isWeighed⟩
theorem impl_isWeighed_w : Walk Try.prog impl_isWeighed_x impl_isWeighed_D Try.f73 c73 14 impl_isWeighed_A :=
  ⟨⟨Try.func73, by kernel_rfl, by kernel_rfl, by kernel_rfl, by decide, by kernel_rfl, Nat.le_of_ble_eq_true (by kernel_rfl)⟩, by kernel_rfl, by kernel_rfl, by kernel_rfl, kcast (by kernel_rfl) trivial, by kernel_rfl, fun x y => by kernel_rfl⟩
theorem impl_isWeighed_s : impl_isWeighed_D.Says Try.prog := impl_isWeighed_w.says follows tabOk impl_areLoads_e_ok
noncomputable def impl_isWeighed_e : Env := more impl_areLoads_e impl_isWeighed_D
theorem impl_isWeighed_e_ok : EnvOk Try.prog impl_isWeighed_e := more_ok impl_areLoads_e_ok impl_isWeighed_s
/-! (loop.example/g01128/impl.Space).isPlace -/
abbrev impl_Space_isPlace_E : Ve.End := ⟨[⟨4, .shr, .bool, none⟩], []⟩
abbrev impl_Space_isPlace_a : List ASh := [.val (.prod (.list (.list I)) (.list (.prod I I))), .val I]
abbrev impl_Space_isPlace_o : List OSh := []
noncomputable def impl_Space_isPlace : argP impl_Space_isPlace_a → obP (extObs 0 impl_Space_isPlace_o) → Option impl_Space_isPlace_E.P
  | (x, i, ()), () => match impl_between (i, (0 : Int), (w64 ((List.length x.1 : Int) - (1 : Int))), ()) () with | some ((r, ()), ()) => some ((r, ()), ()) | none => none
noncomputable def impl_Space_isPlace_x : Cx := ⟨tab, impl_isWeighed_e, fun _ _ => 0, fun _ => false, [(10, 0), (10, 1), (10, 2), (10, 3)], [(2, 0)]⟩
noncomputable def c74 : Code := bodyOf Try.f74
noncomputable def impl_Space_isPlace_A : Ann := .nil
noncomputable def impl_Space_isPlace_D : Ve.Fn := ⟨74, impl_Space_isPlace_a, impl_Space_isPlace_o, impl_Space_isPlace_E, impl_Space_isPlace⟩
theorem impl_Space_isPlace_w : Walk Try.prog impl_Space_isPlace_x impl_Space_isPlace_D Try.f74 c74 11 impl_Space_isPlace_A :=
  ⟨⟨Try.func74, by kernel_rfl, by kernel_rfl, by kernel_rfl, by decide, by kernel_rfl, Nat.le_of_ble_eq_true (by kernel_rfl)⟩, by kernel_rfl, by kernel_rfl, by kernel_rfl, kcast (by kernel_rfl) trivial, by kernel_rfl, fun x y => by kernel_rfl⟩
theorem impl_Space_isPlace_s : impl_Space_isPlace_D.Says Try.prog := impl_Space_isPlace_w.says follows tabOk impl_isWeighed_e_ok
noncomputable def impl_Space_isPlace_e : Env := more impl_isWeighed_e impl_Space_isPlace_D
theorem impl_Space_isPlace_e_ok : EnvOk Try.prog impl_Space_isPlace_e := more_ok impl_isWeighed_e_ok impl_Space_isPlace_s
/-! math/bits.Mul64 -/
abbrev bits_Mul64_E : Ve.End := ⟨[⟨4, .shr, (.int .u64), none⟩, ⟨5, .shr, (.int .u64), none⟩], []⟩
abbrev bits_Mul64_a : List ASh := [.val (.int .u64), .val (.int .u64)]
abbrev bits_Mul64_o : List OSh := []
noncomputable def bits_Mul64 : argP bits_Mul64_a → obP (extObs 0 bits_Mul64_o) → Option bits_Mul64_E.P
  | (x, y, ()), () => some (((IntKind.wrap .u64 ((IntKind.wrap .u64 ((IntKind.wrap .u64 ((Int.fdiv x (2 ^ (min 32 64))) * (Int.fdiv y (2 ^ (min 32 64))))) + (Int.fdiv (IntKind.wrap .u64 ((IntKind.wrap .u64 ((Int.fdiv x (2 ^ (min 32 64))) * (IntKind.wrap .u64 (BitVec.ofInt 64 y &&& BitVec.ofInt 64 (4294967295 : Int)).toNat))) + (Int.fdiv (IntKind.wrap .u64 ((IntKind.wrap .u64 (BitVec.ofInt 64 x &&& BitVec.ofInt 64 (4294967295 : Int)).toNat) * (IntKind.wrap .u64 (BitVec.ofInt 64 y &&& BitVec.ofInt 64 (4294967295 : Int)).toNat))) (2 ^ (min 32 64))))) (2 ^ (min 32 64))))) + (Int.fdiv (IntKind.wrap .u64 ((IntKind.wrap .u64 (BitVec.ofInt 64 (IntKind.wrap .u64 ((IntKind.wrap .u64 ((Int.fdiv x (2 ^ (min 32 64))) * (IntKind.wrap .u64 (BitVec.ofInt 64 y &&& BitVec.ofInt 64 (4294967295 : Int)).toNat))) + (Int.fdiv (IntKind.wrap .u64 ((IntKind.wrap .u64 (BitVec.ofInt 64 x &&& BitVec.ofInt 64 (4294967295 : Int)).toNat) * (IntKind.wrap .u64 (BitVec.ofInt 64 y &&& BitVec.ofInt 64 (4294967295 : Int)).toNat))) (2 ^ (min 32 64))))) &&& BitVec.ofInt 64 (4294967295 : Int)).toNat) + (IntKind.wrap .u64 ((IntKind.wrap .u64 (BitVec.ofInt 64 x &&& BitVec.ofInt 64 (4294967295 : Int)).toNat) * (Int.fdiv y (2 ^ (min 32 64))))))) (2 ^ (min 32 64))))), (IntKind.wrap .u64 (x * y)), ()), ())
noncomputable def bits_Mul64_x : Cx := ⟨tab, impl_Space_isPlace_e, fun _ _ => 0, fun _ => false, [], []⟩
noncomputable def c175 : Code := bodyOf Try.f175
noncomputable def bits_Mul64_A : Ann := .nil
noncomputable def bits_Mul64_D : Ve.Fn := ⟨175, bits_Mul64_a, bits_Mul64_o, bits_Mul64_E, bits_Mul64⟩
theorem bits_Mul64_w : Walk Try.prog bits_Mul64_x bits_Mul64_D Try.f175 c175 51 bits_Mul64_A :=
  ⟨⟨Try.func175, by kernel_rfl, by kernel_rfl, by kernel_rfl, by decide, by kernel_rfl, Nat.le_of_ble_eq_true (by kernel_rfl)⟩, by kernel_rfl, by kernel_rfl, by kernel_rfl, kcast (by kernel_rfl) trivial, by kernel_rfl, fun x y => by kernel_rfl⟩
theorem bits_Mul64_s : bits_Mul64_D.Says Try.prog := bits_Mul64_w.says follows tabOk impl_Space_isPlace_e_ok
noncomputable def bits_Mul64_e : Env := more impl_Space_isPlace_e bits_Mul64_D
theorem bits_Mul64_e_ok : EnvOk Try.prog bits_Mul64_e := more_ok impl_Space_isPlace_e_ok bits_Mul64_s
/-! math/bits.Mul -/
abbrev bits_Mul_E : Ve.End := ⟨[⟨4, .shr, (.int .u64), none⟩, ⟨5, .shr, (.int .u64), none⟩], []⟩
abbrev bits_Mul_a : List ASh := [.val (.int .u64), .val (.int .u64)]
abbrev bits_Mul_o : List OSh := []
noncomputable def bits_Mul : argP bits_Mul_a → obP (extObs 0 bits_Mul_o) → Option bits_Mul_E.P
  | (x, y, ()), () => match bits_Mul64 (x, y, ()) () with | some ((hi, lo, ()), ()) => some ((hi, lo, ()), ()) | none => none
noncomputable def bits_Mul_x : Cx := ⟨tab, bits_Mul64_e, fun _ _ => 0, fun _ => false, [(15, 0), (15, 1), (15, 2), (15, 3), (25, 0), (25, 1), (25, 2), (25, 3)], []⟩
noncomputable def c156 : Code := bodyOf Try.f156
noncomputable def bits_Mul_A : Ann := .nil
noncomputable def bits_Mul_D : Ve.Fn := ⟨156, bits_Mul_a, bits_Mul_o, bits_Mul_E, bits_Mul⟩
theorem bits_Mul_w : Walk Try.prog bits_Mul_x bits_Mul_D Try.f156 c156 30 bits_Mul_A :=
  ⟨⟨Try.func156, by kernel_rfl, by kernel_rfl, by kernel_rfl, by decide, by kernel_rfl, Nat.le_of_ble_eq_true (by kernel_rfl)⟩, by kernel_rfl, by kernel_rfl, by kernel_rfl, kcast (by kernel_rfl) trivial, by kernel_rfl, fun x y => by kernel_rfl⟩
theorem bits_Mul_s : bits_Mul_D.Says Try.prog := bits_Mul_w.says follows tabOk bits_Mul64_e_ok
noncomputable def bits_Mul_e : Env := more bits_Mul64_e bits_Mul_D
theorem bits_Mul_e_ok : EnvOk Try.prog bits_Mul_e := more_ok bits_Mul64_e_ok bits_Mul_s
/-! slices.Repeat[[]loop.example/g01128/impl.toll,loop.example/g01128/impl.toll] -/
abbrev slices_Repeat_impl_toll_impl_toll_J0 : Tpl := ⟨[(7, .own .shr (.prod I I)), (8, .val I)], [], []⟩
abbrev slices_Repeat_impl_toll_impl_toll_J1 : Tpl := ⟨[(7, .own .shr (.prod I I))], [], []⟩
abbrev slices_Repeat_impl_toll_impl_toll_E : Ve.End := ⟨[⟨4, (.own .shr), (.list (.prod I I)), none⟩], []⟩
abbrev slices_Repeat_impl_toll_impl_toll_a : List ASh := [.val (.list (.prod I I)), .val I]
abbrev slices_Repeat_impl_toll_impl_toll_o : List OSh := []
abbrev slices_Repeat_impl_toll_impl_toll_O0 : Out := .one (.ex 0) slices_Repeat_impl_toll_impl_toll_J1
noncomputable def slices_Repeat_impl_toll_impl_toll_B0 : slices_Repeat_impl_toll_impl_toll_J0.P → Option (slices_Repeat_impl_toll_impl_toll_J0.P ⊕ slices_Repeat_impl_toll_impl_toll_O0.P)
  | ((newslice, n, ()), ()) => bif (decide (n < (List.length newslice : Int))) then (guardB (decide (0 ≤ n) && decide (n ≤ (List.length newslice : Int)) && decide ((List.length newslice : Int) ≤ (List.length newslice : Int))) (guardB (decide (0 ≤ (0 : Int)) && decide ((0 : Int) ≤ n) && decide (n ≤ (List.length newslice : Int))) (guardB (decide ((Int.toNat n) ≤ (Int.toNat (List.length newslice : Int))) && decide ((Int.toNat (List.length newslice : Int)) ≤ List.length newslice)) (some (.inl (((List.take (Int.toNat n) newslice ++ List.take (min (List.length (List.drop 0 (List.take (Int.toNat n) newslice))) ((Int.toNat (List.length newslice : Int)) - (Int.toNat n))) (List.drop 0 (List.take (Int.toNat n) newslice)) ++ List.drop ((Int.toNat n) + (min (List.length (List.drop 0 (List.take (Int.toNat n) newslice))) ((Int.toNat (List.length newslice : Int)) - (Int.toNat n)))) newslice), (w64 (n + (((min (List.length (List.drop 0 (List.take (Int.toNat n) newslice))) ((Int.toNat (List.length newslice : Int)) - (Int.toNat n))) : Nat) : Int))), ()), ())))))) else (some (.inr ((newslice, ()), ())))
noncomputable def slices_Repeat_impl_toll_impl_toll : argP slices_Repeat_impl_toll_impl_toll_a → obP (extObs 0 slices_Repeat_impl_toll_impl_toll_o) → Option slices_Repeat_impl_toll_impl_toll_E.P
  | (x, count, ()), () => bif (decide (count < (0 : Int))) then none else (match bits_Mul ((IntKind.wrap .u64 (List.length x : Int)), (IntKind.wrap .u64 count), ()) () with | some ((hi, lo, ()), ()) => (bif (decide ((0 : Int) < hi)) then none else (bif (decide ((9223372036854775807 : Int) < lo)) then none else (guardB (decide (0 ≤ (w64 lo)) && decide ((w64 lo) ≤ (w64 lo)) && decide ((w64 lo) * 16 ≤ 140737488355328)) (guardB (decide (0 ≤ List.length (List.replicate (Int.toNat (w64 lo)) ((0 : Int), (0 : Int)))) && decide (List.length (List.replicate (Int.toNat (w64 lo)) ((0 : Int), (0 : Int))) ≤ List.length (List.replicate (Int.toNat (w64 lo)) ((0 : Int), (0 : Int))))) (match loopO slices_Repeat_impl_toll_impl_toll_B0 (((List.take 0 (List.replicate (Int.toNat (w64 lo)) ((0 : Int), (0 : Int))) ++ List.take (min (List.length x) (List.length (List.replicate (Int.toNat (w64 lo)) ((0 : Int), (0 : Int))) - 0)) x ++ List.drop (0 + (min (List.length x) (List.length (List.replicate (Int.toNat (w64 lo)) ((0 : Int), (0 : Int))) - 0))) (List.replicate (Int.toNat (w64 lo)) ((0 : Int), (0 : Int)))), (((min (List.length x) (List.length (List.replicate (Int.toNat (w64 lo)) ((0 : Int), (0 : Int))) - 0)) : Nat) : Int), ()), ()) with | some ((newslice, ()), ()) => some ((newslice, ()), ()) | none => none))))) | none => none)
noncomputable def slices_Repeat_impl_toll_impl_toll_x : Cx := ⟨tab, bits_Mul_e, fun _ _ => 0, fun _ => false, [(18, 0), (18, 1), (18, 2), (18, 3)], []⟩
noncomputable def c130 : Code := bodyOf Try.f130
noncomputable def slices_Repeat_impl_toll_impl_toll_A : Ann := .seq .nil (.seq .nil (.seq .nil (.seq .nil (.seq .nil (.seq .nil (.seq (.loop slices_Repeat_impl_toll_impl_toll_J0 slices_Repeat_impl_toll_impl_toll_O0 slices_Repeat_impl_toll_impl_toll_B0 (.seq .nil (.draw [(0, .flo), (1, .flo), (2, .flo), (3, .flo), (4, .flo), (5, .flo), (6, .flo), (7, .sole), (8, .flo), (9, .flo)]))) .nil))))))
theorem slices_Repeat_impl_toll_impl_toll_r0 (p : slices_Repeat_impl_toll_impl_toll_J0.P) : run slices_Repeat_impl_toll_impl_toll_x (subc [1, 1, 1, 1, 1, 1, 0, 0, 0] c130) (.seq .nil (.draw [(0, .flo), (1, .flo), (2, .flo), (3, .flo), (4, .flo), (5, .flo), (6, .flo), (7, .sole), (8, .flo), (9, .flo)])) (slices_Repeat_impl_toll_impl_toll_J0.S p) (leaf slices_Repeat_impl_toll_impl_toll_J0 slices_Repeat_impl_toll_impl_toll_O0) = slices_Repeat_impl_toll_impl_toll_B0 p := by kernel_rfl
noncomputable def slices_Repeat_impl_toll_impl_toll_D : Ve.Fn := ⟨130, slices_Repeat_impl_toll_impl_toll_a, slices_Repeat_impl_toll_impl_toll_o, slices_Repeat_impl_toll_impl_toll_E, slices_Repeat_impl_toll_impl_toll⟩
theorem slices_Repeat_impl_toll_impl_toll_w : Walk Try.prog slices_Repeat_impl_toll_impl_toll_x slices_Repeat_impl_toll_impl_toll_D Try.f130 c130 48 slices_Repeat_impl_toll_impl_toll_A :=
  ⟨⟨Try.func130, by kernel_rfl, by kernel_rfl, by kernel_rfl, by decide, by kernel_rfl, Nat.le_of_ble_eq_true (by kernel_rfl)⟩, by kernel_rfl, by kernel_rfl, by kernel_rfl, kcast (by kernel_rfl) (⟨slices_Repeat_impl_toll_impl_toll_r0, trivial⟩ : (∀ p, run slices_Repeat_impl_toll_impl_toll_x (subc [1, 1, 1, 1, 1, 1, 0, 0, 0] c130) (.seq .nil (.draw [(0, .flo), (1, .flo), (2, .flo), (3, .flo), (4, .flo), (5, .flo), (6, .flo), (7, .sole), (8, .flo), (9, .flo)])) (slices_Repeat_impl_toll_impl_toll_J0.S p) (leaf slices_Repeat_impl_toll_impl_toll_J0 slices_Repeat_impl_toll_impl_toll_O0) = slices_Repeat_impl_toll_impl_toll_B0 p) ∧ True), by kernel_rfl, fun x y => by kernel_rfl⟩
theorem slices_Repeat_impl_toll_impl_toll_s : slices_Repeat_impl_toll_impl_toll_D.Says Try.prog := slices_Repeat_impl_toll_impl_toll_w.says follows tabOk bits_Mul_e_ok
noncomputable def slices_Repeat_impl_toll_impl_toll_e : Env := more bits_Mul_e slices_Repeat_impl_toll_impl_toll_D
theorem slices_Repeat_impl_toll_impl_toll_e_ok : EnvOk Try.prog slices_Repeat_impl_toll_impl_toll_e := more_ok bits_Mul_e_ok slices_Repeat_impl_toll_impl_toll_s
noncomputable def slices_Sort_int_int_e : Env := more slices_Repeat_impl_toll_impl_toll_e (sortFn 97)
theorem slices_Sort_int_int_e_ok : EnvOk Try.prog slices_Sort_int_int_e := more_ok slices_Repeat_impl_toll_impl_toll_e_ok sort_s
noncomputable abbrev slices_Sort_int_int := (sortFn 97).F
/-! (loop.example/g01128/impl.Space).roads -/
abbrev impl_Space_roads_J0 : Tpl := ⟨[(3, .own (.own .shr) (.list I)), (13, .val (.list (.prod I I))), (14, .val I), (15, .val I)], [], []⟩
abbrev impl_Space_roads_J1 : Tpl := ⟨[(3, .own (.own .shr) (.list I))], [], []⟩
abbrev impl_Space_roads_J2 : Tpl := ⟨[(3, .own (.own .shr) (.list I)), (46, .same (3, 0) []), (47, .val I), (48, .val I)], [], []⟩
abbrev impl_Space_roads_E : Ve.End := ⟨[⟨2, (.own (.own .shr)), (.list (.list I)), none⟩], []⟩
abbrev impl_Space_roads_a : List ASh := [.val (.prod (.list (.list I)) (.list (.prod I I)))]
abbrev impl_Space_roads_o : List OSh := []
abbrev impl_Space_roads_O0 : Out := .one (.ex 0) impl_Space_roads_J1
noncomputable def impl_Space_roads_B0 : impl_Space_roads_J0.P → Option (impl_Space_roads_J0.P ⊕ impl_Space_roads_O0.P)
  | ((out, t13, t14, t15, ()), ()) => bif (decide (t15 < t14)) then (guardB (inb t15 (List.length t13)) (guardB (inb ((List.getD t13 (Int.toNat t15) ((0 : Int), (0 : Int))).1) (List.length out)) (guardB (decide ((List.length (List.getD out (Int.toNat ((List.getD t13 (Int.toNat t15) ((0 : Int), (0 : Int))).1)) ([] : (List Int))) + List.length [(List.getD t13 (Int.toNat t15) ((0 : Int), (0 : Int))).2]) * 8 ≤ 70368744177664)) (guardB (inb ((List.getD t13 (Int.toNat t15) ((0 : Int), (0 : Int))).1) (List.length out)) (guardB (Nat.beq (Int.toNat ((List.getD t13 (Int.toNat t15) ((0 : Int), (0 : Int))).1)) (Int.toNat ((List.getD t13 (Int.toNat t15) ((0 : Int), (0 : Int))).1)) && true) (guardB (inb ((List.getD t13 (Int.toNat t15) ((0 : Int), (0 : Int))).2) (List.length (List.set out (Int.toNat ((List.getD t13 (Int.toNat t15) ((0 : Int), (0 : Int))).1)) ((List.getD out (Int.toNat ((List.getD t13 (Int.toNat t15) ((0 : Int), (0 : Int))).1)) ([] : (List Int))) ++ [(List.getD t13 (Int.toNat t15) ((0 : Int), (0 : Int))).2])))) (guardB (decide ((List.length (List.getD (List.set out (Int.toNat ((List.getD t13 (Int.toNat t15) ((0 : Int), (0 : Int))).1)) ((List.getD out (Int.toNat ((List.getD t13 (Int.toNat t15) ((0 : Int), (0 : Int))).1)) ([] : (List Int))) ++ [(List.getD t13 (Int.toNat t15) ((0 : Int), (0 : Int))).2])) (Int.toNat ((List.getD t13 (Int.toNat t15) ((0 : Int), (0 : Int))).2)) ([] : (List Int))) + List.length [(List.getD t13 (Int.toNat t15) ((0 : Int), (0 : Int))).1]) * 8 ≤ 70368744177664)) (guardB (inb ((List.getD t13 (Int.toNat t15) ((0 : Int), (0 : Int))).2) (List.length (List.set out (Int.toNat ((List.getD t13 (Int.toNat t15) ((0 : Int), (0 : Int))).1)) ((List.getD out (Int.toNat ((List.getD t13 (Int.toNat t15) ((0 : Int), (0 : Int))).1)) ([] : (List Int))) ++ [(List.getD t13 (Int.toNat t15) ((0 : Int), (0 : Int))).2])))) (guardB (Nat.beq (Int.toNat ((List.getD t13 (Int.toNat t15) ((0 : Int), (0 : Int))).2)) (Int.toNat ((List.getD t13 (Int.toNat t15) ((0 : Int), (0 : Int))).2)) && true) (some (.inl (((List.set (List.set out (Int.toNat ((List.getD t13 (Int.toNat t15) ((0 : Int), (0 : Int))).1)) ((List.getD out (Int.toNat ((List.getD t13 (Int.toNat t15) ((0 : Int), (0 : Int))).1)) ([] : (List Int))) ++ [(List.getD t13 (Int.toNat t15) ((0 : Int), (0 : Int))).2])) (Int.toNat ((List.getD t13 (Int.toNat t15) ((0 : Int), (0 : Int))).2)) ((List.getD (List.set out (Int.toNat ((List.getD t13 (Int.toNat t15) ((0 : Int), (0 : Int))).1)) ((List.getD out (Int.toNat ((List.getD t13 (Int.toNat t15) ((0 : Int), (0 : Int))).1)) ([] : (List Int))) ++ [(List.getD t13 (Int.toNat t15) ((0 : Int), (0 : Int))).2])) (Int.toNat ((List.getD t13 (Int.toNat t15) ((0 : Int), (0 : Int))).2)) ([] : (List Int))) ++ [(List.getD t13 (Int.toNat t15) ((0 : Int), (0 : Int))).1])), t13, t14, (w64 (t15 + (1 : Int))), ()), ())))))))))))) else (some (.inr ((out, ()), ())))
abbrev impl_Space_roads_O1 : Out := .one (.ex 2) impl_Space_roads_J1
noncomputable def impl_Space_roads_B1 : impl_Space_roads_J2.P → Option (impl_Space_roads_J2.P ⊕ impl_Space_roads_O1.P)
  | ((out, t47, t48, ()), ()) => bif (decide (t48 < t47)) then (guardB (inb t48 (List.length out)) (match slices_Sort_int_int () ((List.getD out (Int.toNat t48) ([] : (List Int))), ()) with | some ((), (o, ())) => some (.inl (((List.set out (Int.toNat t48) o), t47, (w64 (t48 + (1 : Int))), ()), ())) | none => none)) else (some (.inr ((out, ()), ())))
noncomputable def impl_Space_roads : argP impl_Space_roads_a → obP (extObs 0 impl_Space_roads_o) → Option impl_Space_roads_E.P
  | (x, ()), () => guardB (decide (0 ≤ (List.length x.1 : Int)) && decide ((List.length x.1 : Int) ≤ (List.length x.1 : Int)) && decide ((List.length x.1 : Int) * 24 ≤ 140737488355328)) (match loopO impl_Space_roads_B0 (((List.replicate (Int.toNat (List.length x.1 : Int)) ([] : (List Int))), x.2, (List.length x.2 : Int), (0 : Int), ()), ()) with | some ((out, ()), ()) => (match loopO impl_Space_roads_B1 ((out, (List.length out : Int), (0 : Int), ()), ()) with | some ((out2, ()), ()) => some ((out2, ()), ()) | none => none) | none => none)
noncomputable def impl_Space_roads_x : Cx := ⟨tab, slices_Sort_int_int_e, fun f n => bif Nat.beq f 97 && Nat.beq n 0 then 1 else 0, fun _ => false, [(29, 0), (42, 0), (53, 0), (53, 1), (53, 2), (53, 3)], [(1, 0), (5, 0)]⟩
noncomputable def c65 : Code := bodyOf Try.f65
noncomputable def impl_Space_roads_A : Ann := .seq .nil (.seq .nil (.seq (.seq .nil (.loop impl_Space_roads_J0 impl_Space_roads_O0 impl_Space_roads_B0 (.seq .nil (.seq .nil (.seq (.seq .nil (.seq (.draw [(0, .flo), (1, .flo), (2, .flo), (3, .flo), (4, .flo), (5, .flo), (6, .flo), (8, .flo), (9, .flo), (7, .qui), (10, .sole), (11, .sole), (12, .flo), (13, .sole)]) (.draw [(0, .flo), (1, .flo), (2, .flo), (3, .flo), (4, .flo), (5, .flo), (6, .flo), (8, .flo), (9, .flo), (7, .qui), (10, .sole), (11, .sole), (12, .flo), (13, .sole)]))) .nil))))) (.seq (.seq .nil (.loop impl_Space_roads_J2 impl_Space_roads_O1 impl_Space_roads_B1 .nil)) .nil)))
theorem impl_Space_roads_r0 (p : impl_Space_roads_J0.P) : run impl_Space_roads_x (subc [1, 1, 0, 1, 0, 0] c65) (.seq .nil (.seq .nil (.seq (.seq .nil (.seq (.draw [(0, .flo), (1, .flo), (2, .flo), (3, .flo), (4, .flo), (5, .flo), (6, .flo), (8, .flo), (9, .flo), (7, .qui), (10, .sole), (11, .sole), (12, .flo), (13, .sole)]) (.draw [(0, .flo), (1, .flo), (2, .flo), (3, .flo), (4, .flo), (5, .flo), (6, .flo), (8, .flo), (9, .flo), (7, .qui), (10, .sole), (11, .sole), (12, .flo), (13, .sole)]))) .nil))) (impl_Space_roads_J0.S p) (leaf impl_Space_roads_J0 impl_Space_roads_O0) = impl_Space_roads_B0 p := by kernel_rfl
theorem impl_Space_roads_r1 (p : impl_Space_roads_J2.P) : run impl_Space_roads_x (subc [1, 1, 1, 0, 1, 0, 0] c65) .nil (impl_Space_roads_J2.S p) (leaf impl_Space_roads_J2 impl_Space_roads_O1) = impl_Space_roads_B1 p := by kernel_rfl
noncomputable def impl_Space_roads_D : Ve.Fn := ⟨65, impl_Space_roads_a, impl_Space_roads_o, impl_Space_roads_E, impl_Space_roads⟩
theorem impl_Space_roads_w : Walk Try.prog impl_Space_roads_x impl_Space_roads_D Try.f65 c65 56 impl_Space_roads_A :=
  ⟨⟨Try.func65, by kernel_rfl, by kernel_rfl, by kernel_rfl, by decide, by kernel_rfl, Nat.le_of_ble_eq_true (by kernel_rfl)⟩, by kernel_rfl, by kernel_rfl, by kernel_rfl, kcast (by kernel_rfl) (⟨impl_Space_roads_r0, impl_Space_roads_r1, trivial⟩ : (∀ p, run impl_Space_roads_x (subc [1, 1, 0, 1, 0, 0] c65) (.seq .nil (.seq .nil (.seq (.seq .nil (.seq (.draw [(0, .flo), (1, .flo), (2, .flo), (3, .flo), (4, .flo), (5, .flo), (6, .flo), (8, .flo), (9, .flo), (7, .qui), (10, .sole), (11, .sole), (12, .flo), (13, .sole)]) (.draw [(0, .flo), (1, .flo), (2, .flo), (3, .flo), (4, .flo), (5, .flo), (6, .flo), (8, .flo), (9, .flo), (7, .qui), (10, .sole), (11, .sole), (12, .flo), (13, .sole)]))) .nil))) (impl_Space_roads_J0.S p) (leaf impl_Space_roads_J0 impl_Space_roads_O0) = impl_Space_roads_B0 p) ∧ (∀ p, run impl_Space_roads_x (subc [1, 1, 1, 0, 1, 0, 0] c65) .nil (impl_Space_roads_J2.S p) (leaf impl_Space_roads_J2 impl_Space_roads_O1) = impl_Space_roads_B1 p) ∧ True), by kernel_rfl, fun x y => by kernel_rfl⟩
theorem impl_Space_roads_s : impl_Space_roads_D.Says Try.prog := impl_Space_roads_w.says follows tabOk slices_Sort_int_int_e_ok
noncomputable def impl_Space_roads_e : Env := more slices_Sort_int_int_e impl_Space_roads_D
theorem impl_Space_roads_e_ok : EnvOk Try.prog impl_Space_roads_e := more_ok slices_Sort_int_int_e_ok impl_Space_roads_s
/-! (loop.example/g01128/impl.toll).less -/
abbrev impl_toll_less_E : Ve.End := ⟨[⟨4, .shr, .bool, none⟩], []⟩
abbrev impl_toll_less_a : List ASh := [.val (.prod I I), .val (.prod I I)]
abbrev impl_toll_less_o : List OSh := []
noncomputable def impl_toll_less : argP impl_toll_less_a → obP (extObs 0 impl_toll_less_o) → Option impl_toll_less_E.P
  | (a, b, ()), () => match cmp_Compare_int (a.1, b.1, ()) () with | some ((r, ()), ()) => (match cmp_Compare_int (a.2, b.2, ()) () with | some ((r2, ()), ()) => (match cmp_Or_int ([r, r2], ()) () with | some ((r3, ()), ()) => some (((decide (r3 < (0 : Int))), ()), ()) | none => none) | none => none) | none => none
noncomputable def impl_toll_less_x : Cx := ⟨tab, impl_Space_roads_e, fun _ _ => 0, fun _ => false, [(9, 0), (9, 1), (9, 2), (9, 3), (14, 0), (14, 1), (14, 2), (14, 3), (15, 0), (16, 0), (16, 1), (16, 2), (16, 3)], [(2, 0), (3, 0)]⟩
noncomputable def c131 : Code := bodyOf Try.f131
noncomputable def impl_toll_less_A : Ann := .seq .nil (.seq (.draw [(0, .flo), (1, .flo), (2, .flo), (3, .flo), (5, .flo), (6, .flo), (7, .flo), (8, .flo), (4, .sole), (9, .sole), (10, .sole), (11, .sole), (12, .flo), (13, .flo)]) .nil)
noncomputable def impl_toll_less_D : Ve.Fn := ⟨131, impl_toll_less_a, impl_toll_less_o, impl_toll_less_E, impl_toll_less⟩
theorem impl_toll_less_w : Walk Try.prog impl_toll_less_x impl_toll_less_D Try.f131 c131 18 impl_toll_less_A :=
  ⟨⟨Try.func131, by kernel_rfl, by kernel_rfl, by kernel_rfl, by decide, by kernel_rfl, Nat.le_of_ble_eq_true (by kernel_rfl)⟩, by kernel_rfl, by kernel_rfl, by kernel_rfl, kcast (by kernel_rfl) trivial, by kernel_rfl, fun x y => by kernel_rfl⟩
theorem impl_toll_less_s : impl_toll_less_D.Says Try.prog := impl_toll_less_w.says follows tabOk impl_Space_roads_e_ok
noncomputable def impl_toll_less_e : Env := more impl_Space_roads_e impl_toll_less_D
theorem impl_toll_less_e_ok : EnvOk Try.prog impl_toll_less_e := more_ok impl_Space_roads_e_ok impl_toll_less_s
/-! loop.example/g01128/impl.pair -/
abbrev impl_pair_E : Ve.End := ⟨[⟨4, .shr, (.prod I I), some 71⟩], []⟩
abbrev impl_pair_a : List ASh := [.val I, .val I]
abbrev impl_pair_o : List OSh := []
noncomputable def impl_pair : argP impl_pair_a → obP (extObs 0 impl_pair_o) → Option impl_pair_E.P
  | (a, b, ()), () => some ((((bif decide (b < a) then b else a), (bif decide (a < b) then b else a)), ()), ())
noncomputable def impl_pair_x : Cx := ⟨tab, impl_toll_less_e, fun _ _ => 0, fun _ => false, [], []⟩
noncomputable def c136 : Code := bodyOf Try.f136
noncomputable def impl_pair_A : Ann := .nil
noncomputable def impl_pair_D : Ve.Fn := ⟨136, impl_pair_a, impl_pair_o, impl_pair_E, impl_pair⟩
theorem impl_pair_w : Walk Try.prog impl_pair_x impl_pair_D Try.f136 c136 12 impl_pair_A :=
  ⟨⟨Try.func136, by kernel_rfl, by kernel_rfl, by kernel_rfl, by decide, by kernel_rfl, Nat.le_of_ble_eq_true (by kernel_rfl)⟩, by kernel_rfl, by kernel_rfl, by kernel_rfl, kcast (by kernel_rfl) trivial, by kernel_rfl, fun x y => by kernel_rfl⟩
theorem impl_pair_s : impl_pair_D.Says Try.prog := impl_pair_w.says follows tabOk impl_toll_less_e_ok
noncomputable def impl_pair_e : Env := more impl_toll_less_e impl_pair_D
theorem impl_pair_e_ok : EnvOk Try.prog impl_pair_e := more_ok impl_toll_less_e_ok impl_pair_s
/-! slices.BinarySearchFunc[[][2]int,[2]int,[2]int] -/
abbrev slices_BinarySearchFunc_2_int_2_int_2_int_vvf_impl_comparePairs_J0 : Tpl := ⟨[(0, .val (.list (.prod I I))), (2, .fn ⟨137, []⟩), (4, .cst (.prod I I)), (8, .val I), (9, .val I), (10, .val I)], [], []⟩
abbrev slices_BinarySearchFunc_2_int_2_int_2_int_vvf_impl_comparePairs_J1 : Tpl := ⟨[(0, .val (.list (.prod I I))), (2, .fn ⟨137, []⟩), (4, .cst (.prod I I)), (8, .val I), (9, .val I)], [], []⟩
abbrev slices_BinarySearchFunc_2_int_2_int_2_int_vvf_impl_comparePairs_E : Ve.End := ⟨[⟨6, .shr, I, none⟩, ⟨7, .shr, .bool, none⟩], []⟩
abbrev slices_BinarySearchFunc_2_int_2_int_2_int_vvf_impl_comparePairs_a : List ASh := [.val (.list (.prod I I)), .val (.prod I I), .fn 137 []]
abbrev slices_BinarySearchFunc_2_int_2_int_2_int_vvf_impl_comparePairs_o : List OSh := []
abbrev slices_BinarySearchFunc_2_int_2_int_2_int_vvf_impl_comparePairs_O0 : Out := .one (.ex 0) slices_BinarySearchFunc_2_int_2_int_2_int_vvf_impl_comparePairs_J1
noncomputable def slices_BinarySearchFunc_2_int_2_int_2_int_vvf_impl_comparePairs_B0 : slices_BinarySearchFunc_2_int_2_int_2_int_vvf_impl_comparePairs_J0.P → Option (slices_BinarySearchFunc_2_int_2_int_2_int_vvf_impl_comparePairs_J0.P ⊕ slices_BinarySearchFunc_2_int_2_int_2_int_vvf_impl_comparePairs_O0.P)
  | ((x, target, n, i, j, ()), ()) => bif (decide (i < j)) then (guardB (inb (w64 (Int.fdiv (IntKind.wrap .u64 (w64 (i + j))) (2 ^ (min 1 64)))) (List.length x)) (match impl_comparePairs ((List.getD x (Int.toNat (w64 (Int.fdiv (IntKind.wrap .u64 (w64 (i + j))) (2 ^ (min 1 64))))) ((0 : Int), (0 : Int))), target, ()) () with | some ((r, ()), ()) => (bif (decide (r < (0 : Int))) then (some (.inl ((x, target, n, (w64 ((w64 (Int.fdiv (IntKind.wrap .u64 (w64 (i + j))) (2 ^ (min 1 64)))) + (1 : Int))), j, ()), ()))) else (some (.inl ((x, target, n, i, (w64 (Int.fdiv (IntKind.wrap .u64 (w64 (i + j))) (2 ^ (min 1 64)))), ()), ())))) | none => none)) else (some (.inr ((x, target, n, i, ()), ())))
noncomputable def slices_BinarySearchFunc_2_int_2_int_2_int_vvf_impl_comparePairs : argP slices_BinarySearchFunc_2_int_2_int_2_int_vvf_impl_comparePairs_a → obP (extObs 0 slices_BinarySearchFunc_2_int_2_int_2_int_vvf_impl_comparePairs_o) → Option slices_BinarySearchFunc_2_int_2_int_2_int_vvf_impl_comparePairs_E.P
  | (x, target, ()), () => match loopO slices_BinarySearchFunc_2_int_2_int_2_int_vvf_impl_comparePairs_B0 ((x, target, (List.length x : Int), (0 : Int), (List.length x : Int), ()), ()) with | some ((x2, target2, n, i, ()), ()) => (bif (decide (i < n)) then (guardB (inb i (List.length x2)) (match impl_comparePairs ((List.getD x2 (Int.toNat i) ((0 : Int), (0 : Int))), target2, ()) () with | some ((r, ()), ()) => some ((i, (r == (0 : Int)), ()), ()) | none => none)) else (some ((i, false, ()), ()))) | none => none
noncomputable def slices_BinarySearchFunc_2_int_2_int_2_int_vvf_impl_comparePairs_x : Cx := ⟨tab, impl_pair_e, fun _ _ => 0, fun _ => false, [(30, 0), (30, 1), (30, 2), (30, 3), (46, 0), (46, 1), (46, 2), (46, 3)], [(4, 0)]⟩
noncomputable def c135 : Code := bodyOf Try.f135
noncomputable def slices_BinarySearchFunc_2_int_2_int_2_int_vvf_impl_comparePairs_A : Ann := .seq .nil (.seq .nil (.seq .nil (.seq (.loop slices_BinarySearchFunc_2_int_2_int_2_int_vvf_impl_comparePairs_J0 slices_BinarySearchFunc_2_int_2_int_2_int_vvf_impl_comparePairs_O0 slices_BinarySearchFunc_2_int_2_int_2_int_vvf_impl_comparePairs_B0 (.seq .nil (.seq .nil (.seq (.draw [(0, .flo), (1, .flo), (2, .flo), (3, .flo), (4, .flo), (5, .flo), (6, .sole), (7, .flo)]) .nil)))) (.seq (.draw [(0, .flo), (1, .flo), (2, .flo), (3, .flo), (4, .flo), (5, .flo), (6, .flo), (7, .flo), (8, .flo), (9, .flo), (10, .flo), (11, .sole), (12, .flo), (13, .flo), (14, .flo), (15, .flo)]) .nil))))
theorem slices_BinarySearchFunc_2_int_2_int_2_int_vvf_impl_comparePairs_r0 (p : slices_BinarySearchFunc_2_int_2_int_2_int_vvf_impl_comparePairs_J0.P) : run slices_BinarySearchFunc_2_int_2_int_2_int_vvf_impl_comparePairs_x (subc [1, 1, 1, 0, 0, 0] c135) (.seq .nil (.seq .nil (.seq (.draw [(0, .flo), (1, .flo), (2, .flo), (3, .flo), (4, .flo), (5, .flo), (6, .sole), (7, .flo)]) .nil))) (slices_BinarySearchFunc_2_int_2_int_2_int_vvf_impl_comparePairs_J0.S p) (leaf slices_BinarySearchFunc_2_int_2_int_2_int_vvf_impl_comparePairs_J0 slices_BinarySearchFunc_2_int_2_int_2_int_vvf_impl_comparePairs_O0) = slices_BinarySearchFunc_2_int_2_int_2_int_vvf_impl_comparePairs_B0 p := by kernel_rfl
noncomputable def slices_BinarySearchFunc_2_int_2_int_2_int_vvf_impl_comparePairs_D : Ve.Fn := ⟨135, slices_BinarySearchFunc_2_int_2_int_2_int_vvf_impl_comparePairs_a, slices_BinarySearchFunc_2_int_2_int_2_int_vvf_impl_comparePairs_o, slices_BinarySearchFunc_2_int_2_int_2_int_vvf_impl_comparePairs_E, slices_BinarySearchFunc_2_int_2_int_2_int_vvf_impl_comparePairs⟩
theorem slices_BinarySearchFunc_2_int_2_int_2_int_vvf_impl_comparePairs_w : Walk Try.prog slices_BinarySearchFunc_2_int_2_int_2_int_vvf_impl_comparePairs_x slices_BinarySearchFunc_2_int_2_int_2_int_vvf_impl_comparePairs_D Try.f135 c135 49 slices_BinarySearchFunc_2_int_2_int_2_int_vvf_impl_comparePairs_A :=
  ⟨⟨Try.func135, by kernel_rfl, by kernel_rfl, by kernel_rfl, by decide, by kernel_rfl, Nat.le_of_ble_eq_true (by kernel_rfl)⟩, by kernel_rfl, by kernel_rfl, by kernel_rfl, kcast (by kernel_rfl) (⟨slices_BinarySearchFunc_2_int_2_int_2_int_vvf_impl_comparePairs_r0, trivial⟩ : (∀ p, run slices_BinarySearchFunc_2_int_2_int_2_int_vvf_impl_comparePairs_x (subc [1, 1, 1, 0, 0, 0] c135) (.seq .nil (.seq .nil (.seq (.draw [(0, .flo), (1, .flo), (2, .flo), (3, .flo), (4, .flo), (5, .flo), (6, .sole), (7, .flo)]) .nil))) (slices_BinarySearchFunc_2_int_2_int_2_int_vvf_impl_comparePairs_J0.S p) (leaf slices_BinarySearchFunc_2_int_2_int_2_int_vvf_impl_comparePairs_J0 slices_BinarySearchFunc_2_int_2_int_2_int_vvf_impl_comparePairs_O0) = slices_BinarySearchFunc_2_int_2_int_2_int_vvf_impl_comparePairs_B0 p) ∧ True), by kernel_rfl, fun x y => by kernel_rfl⟩
theorem slices_BinarySearchFunc_2_int_2_int_2_int_vvf_impl_comparePairs_s : slices_BinarySearchFunc_2_int_2_int_2_int_vvf_impl_comparePairs_D.Says Try.prog := slices_BinarySearchFunc_2_int_2_int_2_int_vvf_impl_comparePairs_w.says follows tabOk impl_pair_e_ok
noncomputable def slices_BinarySearchFunc_2_int_2_int_2_int_vvf_impl_comparePairs_e : Env := more impl_pair_e slices_BinarySearchFunc_2_int_2_int_2_int_vvf_impl_comparePairs_D
theorem slices_BinarySearchFunc_2_int_2_int_2_int_vvf_impl_comparePairs_e_ok : EnvOk Try.prog slices_BinarySearchFunc_2_int_2_int_2_int_vvf_impl_comparePairs_e := more_ok impl_pair_e_ok slices_BinarySearchFunc_2_int_2_int_2_int_vvf_impl_comparePairs_s
/-! (loop.example/g01128/impl.Space).weight -/
abbrev impl_Space_weight_E : Ve.End := ⟨[⟨8, .shr, I, none⟩], []⟩
abbrev impl_Space_weight_a : List ASh := [.val (.prod (.list (.list I)) (.list (.prod I I))), .val (.list I), .val I, .val I]
abbrev impl_Space_weight_o : List OSh := []
noncomputable def impl_Space_weight : argP impl_Space_weight_a → obP (extObs 0 impl_Space_weight_o) → Option impl_Space_weight_E.P
  | (x, weights, i, j, ()), () => match impl_pair (i, j, ()) () with | some ((r, ()), ()) => (match slices_BinarySearchFunc_2_int_2_int_2_int_vvf_impl_comparePairs (x.2, r, ()) () with | some ((r2, r3, ()), ()) => guardB (inb r2 (List.length weights)) (some (((List.getD weights (Int.toNat r2) (0 : Int)), ()), ())) | none => none) | none => none
noncomputable def impl_Space_weight_x : Cx := ⟨tab, slices_BinarySearchFunc_2_int_2_int_2_int_vvf_impl_comparePairs_e, fun _ _ => 0, fun _ => false, [(16, 0), (16, 1), (16, 2), (16, 3), (17, 0), (17, 1), (17, 2), (17, 3)], [(4, 0)]⟩
noncomputable def c86 : Code := bodyOf Try.f86
noncomputable def impl_Space_weight_A : Ann := .seq .nil (.seq (.draw [(0, .flo), (1, .flo), (2, .flo), (3, .flo), (4, .sole), (5, .sole), (6, .flo), (7, .flo), (8, .flo), (9, .flo), (10, .flo)]) .nil)
noncomputable def impl_Space_weight_D : Ve.Fn := ⟨86, impl_Space_weight_a, impl_Space_weight_o, impl_Space_weight_E, impl_Space_weight⟩
theorem impl_Space_weight_w : Walk Try.prog impl_Space_weight_x impl_Space_weight_D Try.f86 c86 24 impl_Space_weight_A :=
  ⟨⟨Try.func86, by kernel_rfl, by kernel_rfl, by kernel_rfl, by decide, by kernel_rfl, Nat.le_of_ble_eq_true (by kernel_rfl)⟩, by kernel_rfl, by kernel_rfl, by kernel_rfl, kcast (by kernel_rfl) trivial, by kernel_rfl, fun x y => by kernel_rfl⟩
theorem impl_Space_weight_s : impl_Space_weight_D.Says Try.prog := impl_Space_weight_w.says follows tabOk slices_BinarySearchFunc_2_int_2_int_2_int_vvf_impl_comparePairs_e_ok
noncomputable def impl_Space_weight_e : Env := more slices_BinarySearchFunc_2_int_2_int_2_int_vvf_impl_comparePairs_e impl_Space_weight_D
theorem impl_Space_weight_e_ok : EnvOk Try.prog impl_Space_weight_e := more_ok slices_BinarySearchFunc_2_int_2_int_2_int_vvf_impl_comparePairs_e_ok impl_Space_weight_s
/-! (loop.example/g01128/impl.Space).tolls -/
abbrev impl_Space_tolls_J0 : Tpl := ⟨[(1, .val (.list I)), (3, .cst (.prod (.list (.list I)) (.list (.prod I I)))), (7, .own .shr (.prod I I)), (8, .own .shr .bool), (9, .val (.list (.list I))), (10, .val I), (32, .same (7, 0) []), (33, .val I), (34, .val I)], [], []⟩
abbrev impl_Space_tolls_J1 : Tpl := ⟨[(1, .val (.list I)), (3, .cst (.prod (.list (.list I)) (.list (.prod I I)))), (7, .own .shr (.prod I I)), (8, .own .shr .bool), (9, .val (.list (.list I))), (10, .val I)], [], []⟩
abbrev impl_Space_tolls_J2 : Tpl := ⟨[(1, .val (.list I)), (3, .cst (.prod (.list (.list I)) (.list (.prod I I)))), (7, .own .shr (.prod I I)), (8, .own .shr .bool), (9, .val (.list (.list I))), (10, .val I), (72, .val (.list I)), (73, .val I), (74, .val I)], [], []⟩
abbrev impl_Space_tolls_J3 : Tpl := ⟨[(1, .val (.list I)), (3, .cst (.prod (.list (.list I)) (.list (.prod I I)))), (7, .own .shr (.prod I I)), (8, .own .shr .bool), (9, .val (.list (.list I)))], [], []⟩
abbrev impl_Space_tolls_J4 : Tpl := ⟨[(6, .own .shr (.prod I I))], [], []⟩
abbrev impl_Space_tolls_J5 : Tpl := ⟨[(1, .val (.list I)), (2, .val I), (3, .cst (.prod (.list (.list I)) (.list (.prod I I)))), (7, .own .shr (.prod I I)), (8, .own .shr .bool), (9, .val (.list (.list I)))], [], []⟩
abbrev impl_Space_tolls_J6 : Tpl := ⟨[(1, .val (.list I)), (3, .cst (.prod (.list (.list I)) (.list (.prod I I)))), (7, .own .shr (.prod I I)), (8, .own .shr .bool), (9, .val (.list (.list I))), (10, .val I), (14, .val I), (15, .cst (.prod I I)), (72, .val (.list I)), (73, .val I), (74, .val I)], [], []⟩
abbrev impl_Space_tolls_J7 : Tpl := ⟨[(1, .val (.list I)), (2, .val I), (3, .cst (.prod (.list (.list I)) (.list (.prod I I)))), (16, .val (.prod I I)), (20, .val I), (24, .val I), (26, .val (.prod (.list (.list I)) (.list (.prod I I))))], [], []⟩
abbrev impl_Space_tolls_J8 : Tpl := ⟨[(1, .val (.list I)), (2, .val I), (3, .cst (.prod (.list (.list I)) (.list (.prod I I)))), (17, .own .shr (.prod I I)), (20, .val I), (24, .val I), (26, .val (.prod (.list (.list I)) (.list (.prod I I))))], [], []⟩
abbrev impl_Space_tolls_J9 : Tpl := ⟨[(1, .val (.list I)), (2, .val I), (3, .cst (.prod (.list (.list I)) (.list (.prod I I)))), (21, .own .shr (.prod I I)), (24, .val I), (26, .val (.prod (.list (.list I)) (.list (.prod I I))))], [], []⟩
abbrev impl_Space_tolls_J10 : Tpl := ⟨[(1, .val (.list I)), (3, .cst (.prod (.list (.list I)) (.list (.prod I I)))), (7, .same (7, 0) []), (8, .own .shr .bool), (9, .val (.list (.list I))), (10, .val I), (14, .val I), (72, .val (.list I)), (73, .val I), (74, .val I), (81, .adi (7, 0) [.fst]), (83, .val (.prod (.list (.list I)) (.list (.prod I I)))), (84, .val (.list I)), (85, .val I), (86, .val I), (92, .adi (7, 0) [.snd])], [((7, 0), .vec .shr (.prod I I))], []⟩
abbrev impl_Space_tolls_J11 : Tpl := ⟨[(1, .val (.list I)), (3, .cst (.prod (.list (.list I)) (.list (.prod I I)))), (7, .same (7, 0) []), (8, .own .shr .bool), (9, .val (.list (.list I))), (10, .val I), (14, .val I), (72, .val (.list I)), (73, .val I), (74, .val I), (82, .val I), (83, .val (.prod (.list (.list I)) (.list (.prod I I)))), (84, .val (.list I)), (85, .val I), (86, .val I), (92, .adi (7, 0) [.snd])], [((7, 0), .vec .shr (.prod I I))], []⟩
abbrev impl_Space_tolls_J12 : Tpl := ⟨[(1, .val (.list I)), (3, .cst (.prod (.list (.list I)) (.list (.prod I I)))), (7, .own .shr (.prod I I)), (8, .own .shr .bool), (9, .val (.list (.list I))), (10, .val I), (14, .val I), (72, .val (.list I)), (73, .val I), (74, .val I), (82, .val I), (83, .val (.prod (.list (.list I)) (.list (.prod I I)))), (84, .val (.list I)), (85, .val I), (86, .val I), (94, .val I)], [], []⟩
abbrev impl_Space_tolls_J13 : Tpl := ⟨[(1, .val (.list I)), (3, .cst (.prod (.list (.list I)) (.list (.prod I I)))), (7, .same (7, 0) []), (8, .own .shr .bool), (9, .val (.list (.list I))), (10, .val I), (14, .val I), (15, .ptr (15, 0)), (72, .val (.list I)), (73, .val I), (74, .val I), (82, .val I), (83, .val (.prod (.list (.list I)) (.list (.prod I I)))), (84, .val (.list I)), (85, .val I), (86, .val I), (92, .adi (7, 0) [.snd])], [((7, 0), .vec .shr (.prod I I)), ((15, 0), .box .shr (.prod I I))], []⟩
abbrev impl_Space_tolls_J14 : Tpl := ⟨[(1, .val (.list I)), (3, .cst (.prod (.list (.list I)) (.list (.prod I I)))), (7, .same (7, 0) []), (8, .own .shr .bool), (9, .val (.list (.list I))), (10, .val I), (14, .val I), (72, .val (.list I)), (73, .val I), (74, .val I), (81, .adi (7, 0) [.fst]), (83, .val (.prod (.list (.list I)) (.list (.prod I I)))), (84, .val (.list I)), (85, .val I), (86, .val I), (94, .val I)], [((7, 0), .vec .shr (.prod I I))], []⟩
abbrev impl_Space_tolls_J15 : Tpl := ⟨[(1, .val (.list I)), (3, .cst (.prod (.list (.list I)) (.list (.prod I I)))), (7, .same (7, 0) []), (8, .own .shr .bool), (9, .val (.list (.list I))), (10, .val I), (14, .val I), (15, .ptr (15, 0)), (72, .val (.list I)), (73, .val I), (74, .val I), (81, .adi (7, 0) [.fst]), (83, .val (.prod (.list (.list I)) (.list (.prod I I)))), (84, .val (.list I)), (85, .val I), (86, .val I), (94, .val I)], [((7, 0), .vec .shr (.prod I I)), ((15, 0), .box .shr (.prod I I))], []⟩
abbrev impl_Space_tolls_J16 : Tpl := ⟨[(1, .val (.list I)), (3, .cst (.prod (.list (.list I)) (.list (.prod I I)))), (7, .same (7, 0) []), (8, .own .shr .bool), (9, .val (.list (.list I))), (10, .val I), (14, .val I), (15, .ptr (15, 0)), (72, .val (.list I)), (73, .val I), (74, .val I), (81, .adi (7, 0) [.fst]), (83, .val (.prod (.list (.list I)) (.list (.prod I I)))), (84, .val (.list I)), (85, .val I), (86, .val I), (92, .adi (7, 0) [.snd])], [((7, 0), .vec .shr (.prod I I)), ((15, 0), .box .shr (.prod I I))], []⟩
abbrev impl_Space_tolls_E : Ve.End := ⟨[⟨6, (.own .shr), (.list (.prod I I)), none⟩], []⟩
abbrev impl_Space_tolls_a : List ASh := [.val (.prod (.list (.list I)) (.list (.prod I I))), .val (.list I), .val I]
abbrev impl_Space_tolls_o : List OSh := []
noncomputable def impl_Space_tolls_D2 : impl_Space_tolls_J9.P → Option impl_Space_tolls_J5.P
  | ((t1, t2, t3, t21, t24, t26, ()), ()) => guardB (decide (0 ≤ t24) && decide (t24 ≤ t24) && decide (t24 * 1 ≤ 140737488355328)) (match impl_Space_roads (t26, ()) () with | some ((r, ()), ()) => some ((t1, t2, t3, t21, (List.replicate (Int.toNat t24) false), r, ()), ()) | none => none)
noncomputable def impl_Space_tolls_T2 : DT impl_Space_tolls_J5 := .node impl_Space_tolls_J9 impl_Space_tolls_D2 (.br [(9, .sole), (11, .sole), (12, .flo), (13, .flo), (14, .flo)] .fin (.br [(11, .sole), (12, .flo), (9, .sole), (13, .flo), (14, .flo)] .fin .nobr))
noncomputable def impl_Space_tolls_D1 : impl_Space_tolls_J8.P → Option impl_Space_tolls_J5.P
  | ((t1, t2, t3, t17, t20, t24, t26, ()), ()) => match slices_Repeat_impl_toll_impl_toll (t17, t20, ()) () with | some ((r, ()), ()) => impl_Space_tolls_D2 ((t1, t2, t3, r, t24, t26, ()), ()) | none => none
noncomputable def impl_Space_tolls_T1 : DT impl_Space_tolls_J5 := .node impl_Space_tolls_J8 impl_Space_tolls_D1 (.br [(5, .sole)] impl_Space_tolls_T2 (.br [(9, .sole), (5, .sole), (11, .sole), (12, .flo), (13, .flo), (14, .flo)] .fin .nobr))
noncomputable def impl_Space_tolls_D0 : impl_Space_tolls_J7.P → Option impl_Space_tolls_J5.P
  | ((t1, t2, t3, t16, t20, t24, t26, ()), ()) => impl_Space_tolls_D1 ((t1, t2, t3, [t16], t20, t24, t26, ()), ())
noncomputable def impl_Space_tolls_T0 : DT impl_Space_tolls_J5 := .node impl_Space_tolls_J7 impl_Space_tolls_D0 (.br [(1, .sole)] impl_Space_tolls_T1 (.br [(9, .sole), (1, .sole), (5, .sole), (11, .sole), (12, .flo), (13, .flo), (14, .flo)] .fin .nobr))
noncomputable def impl_Space_tolls_D5 : impl_Space_tolls_J12.P → Option impl_Space_tolls_J6.P
  | ((t1, t3, t7, t8, t9, t10, t14, t72, t73, t74, t82, t83, t84, t85, t86, t94, ()), ()) => match impl_Space_weight (t83, t84, t85, t86, ()) () with | some ((r, ()), ()) => some ((t1, t3, t7, t8, t9, t10, t14, ((w64 (t82 + r)), t94), t72, t73, t74, ()), ()) | none => none
noncomputable def impl_Space_tolls_T5 : DT impl_Space_tolls_J6 := .node impl_Space_tolls_J12 impl_Space_tolls_D5 (.br [(9, .sole), (10, .flo), (17, .flo), (18, .sole), (19, .sole)] .fin (.br [(18, .sole), (9, .sole), (10, .flo), (17, .flo), (19, .sole)] .fin .nobr))
noncomputable def impl_Space_tolls_D6 : impl_Space_tolls_J13.P → Option impl_Space_tolls_J6.P
  | ((t1, t3, t8, t9, t10, t14, t72, t73, t74, t82, t83, t84, t85, t86, t92, ()), (t7, t15, ())) => match impl_Space_weight (t83, t84, t85, t86, ()) () with | some ((r, ()), ()) => some ((t1, t3, t7, t8, t9, t10, t14, ((w64 (t82 + r)), (w64 (((List.getD t7 t92 ((0 : Int), (0 : Int))).2) + (1 : Int)))), t72, t73, t74, ()), ()) | none => none
noncomputable def impl_Space_tolls_T6 : DT impl_Space_tolls_J6 := .node impl_Space_tolls_J13 impl_Space_tolls_D6 (.br [(9, .sole), (10, .flo), (15, .qui), (16, .flo), (17, .flo), (19, .sole)] .fin (.br [(15, .sole), (16, .flo), (9, .sole), (10, .flo), (17, .flo), (19, .sole)] .fin .nobr))
noncomputable def impl_Space_tolls_D4 : impl_Space_tolls_J11.P → Option impl_Space_tolls_J6.P
  | ((t1, t3, t8, t9, t10, t14, t72, t73, t74, t82, t83, t84, t85, t86, t92, ()), (t7, ())) => match impl_Space_weight (t83, t84, t85, t86, ()) () with | some ((r, ()), ()) => some ((t1, t3, t7, t8, t9, t10, t14, ((w64 (t82 + r)), (w64 (((List.getD t7 t92 ((0 : Int), (0 : Int))).2) + (1 : Int)))), t72, t73, t74, ()), ()) | none => none
noncomputable def impl_Space_tolls_T4 : DT impl_Space_tolls_J6 := .node impl_Space_tolls_J11 impl_Space_tolls_D4 (.br [(9, .sole), (10, .flo), (15, .qui), (16, .flo), (17, .flo), (18, .sole), (19, .sole)] .fin (.br [(15, .sole), (16, .flo)] impl_Space_tolls_T5 (.br [(18, .sole)] impl_Space_tolls_T6 .nobr)))
noncomputable def impl_Space_tolls_D8 : impl_Space_tolls_J15.P → Option impl_Space_tolls_J6.P
  | ((t1, t3, t8, t9, t10, t14, t72, t73, t74, t81, t83, t84, t85, t86, t94, ()), (t7, t15, ())) => match impl_Space_weight (t83, t84, t85, t86, ()) () with | some ((r, ()), ()) => some ((t1, t3, t7, t8, t9, t10, t14, ((w64 (((List.getD t7 t81 ((0 : Int), (0 : Int))).1) + r)), t94), t72, t73, t74, ()), ()) | none => none
noncomputable def impl_Space_tolls_T8 : DT impl_Space_tolls_J6 := .node impl_Space_tolls_J15 impl_Space_tolls_D8 (.br [(4, .sole), (9, .sole), (10, .flo), (17, .flo), (19, .sole)] .fin (.br [(9, .sole), (4, .qui), (10, .flo), (17, .flo), (19, .sole)] .fin .nobr))
noncomputable def impl_Space_tolls_D7 : impl_Space_tolls_J14.P → Option impl_Space_tolls_J6.P
  | ((t1, t3, t8, t9, t10, t14, t72, t73, t74, t81, t83, t84, t85, t86, t94, ()), (t7, ())) => impl_Space_tolls_D5 ((t1, t3, t7, t8, t9, t10, t14, t72, t73, t74, (List.getD t7 t81 ((0 : Int), (0 : Int))).1, t83, t84, t85, t86, t94, ()), ())
noncomputable def impl_Space_tolls_T7 : DT impl_Space_tolls_J6 := .node impl_Space_tolls_J14 impl_Space_tolls_D7 (.br [(4, .sole)] impl_Space_tolls_T5 (.br [(9, .sole), (4, .qui), (10, .flo), (17, .flo), (18, .sole), (19, .sole)] .fin (.br [(18, .sole)] impl_Space_tolls_T8 .nobr)))
noncomputable def impl_Space_tolls_D9 : impl_Space_tolls_J16.P → Option impl_Space_tolls_J6.P
  | ((t1, t3, t8, t9, t10, t14, t72, t73, t74, t81, t83, t84, t85, t86, t92, ()), (t7, t15, ())) => impl_Space_tolls_D6 ((t1, t3, t8, t9, t10, t14, t72, t73, t74, (List.getD t7 t81 ((0 : Int), (0 : Int))).1, t83, t84, t85, t86, t92, ()), (t7, t15, ()))
noncomputable def impl_Space_tolls_T9 : DT impl_Space_tolls_J6 := .node impl_Space_tolls_J16 impl_Space_tolls_D9 (.br [(4, .sole)] impl_Space_tolls_T6 (.br [(9, .sole), (4, .qui), (10, .flo), (15, .qui), (16, .flo), (17, .flo), (19, .sole)] .fin (.br [(15, .sole), (16, .flo)] impl_Space_tolls_T8 .nobr)))
noncomputable def impl_Space_tolls_D3 : impl_Space_tolls_J10.P → Option impl_Space_tolls_J6.P
  | ((t1, t3, t8, t9, t10, t14, t72, t73, t74, t81, t83, t84, t85, t86, t92, ()), (t7, ())) => impl_Space_tolls_D4 ((t1, t3, t8, t9, t10, t14, t72, t73, t74, (List.getD t7 t81 ((0 : Int), (0 : Int))).1, t83, t84, t85, t86, t92, ()), (t7, ()))
noncomputable def impl_Space_tolls_T3 : DT impl_Space_tolls_J6 := .node impl_Space_tolls_J10 impl_Space_tolls_D3 (.br [(4, .sole)] impl_Space_tolls_T4 (.br [(9, .sole), (4, .qui), (10, .flo), (15, .qui), (16, .flo), (17, .flo), (18, .sole), (19, .sole)] .fin (.br [(15, .sole), (16, .flo)] impl_Space_tolls_T7 (.br [(18, .sole)] impl_Space_tolls_T9 .nobr))))
abbrev impl_Space_tolls_O0 : Out := .one (.ex 2) impl_Space_tolls_J1
noncomputable def impl_Space_tolls_B0 : impl_Space_tolls_J0.P → Option (impl_Space_tolls_J0.P ⊕ impl_Space_tolls_O0.P)
  | ((t1, t3, t7, t8, t9, t10, t33, t34, ()), ()) => bif (decide (t34 < t33)) then (guardB (inb t34 (List.length t7)) (bif (decide ((0 : Int) ≤ ((List.getD t7 (Int.toNat t34) ((0 : Int), (0 : Int))).1))) then (guardB (inb t34 (List.length t8)) (bif (!(List.getD t8 (Int.toNat t34) false)) then (bif (decide (t10 < (0 : Int))) then (some (.inl ((t1, t3, t7, t8, t9, t34, t33, (w64 (t34 + (1 : Int))), ()), ()))) else (guardB (inb t10 (List.length t7)) (match impl_toll_less ((List.getD t7 (Int.toNat t34) ((0 : Int), (0 : Int))), (List.getD t7 (Int.toNat t10) ((0 : Int), (0 : Int))), ()) () with | some ((r, ()), ()) => (bif r then (some (.inl ((t1, t3, t7, t8, t9, t34, t33, (w64 (t34 + (1 : Int))), ()), ()))) else (some (.inl ((t1, t3, t7, t8, t9, t10, t33, (w64 (t34 + (1 : Int))), ()), ())))) | none => none))) else (some (.inl ((t1, t3, t7, t8, t9, t10, t33, (w64 (t34 + (1 : Int))), ()), ()))))) else (some (.inl ((t1, t3, t7, t8, t9, t10, t33, (w64 (t34 + (1 : Int))), ()), ()))))) else (some (.inr ((t1, t3, t7, t8, t9, t10, ()), ())))
abbrev impl_Space_tolls_O1 : Out := .one (.ex 4) impl_Space_tolls_J3
noncomputable def impl_Space_tolls_B1 : impl_Space_tolls_J2.P → Option (impl_Space_tolls_J2.P ⊕ impl_Space_tolls_O1.P)
  | ((t1, t3, t7, t8, t9, t10, t72, t73, t74, ()), ()) => bif (decide (t74 < t73)) then (guardB (inb t74 (List.length t72)) (guardB (inb t10 (List.length t7)) (guardB (inb t10 (List.length t7)) (match impl_Space_tolls_D3 ((t1, t3, t8, t9, t10, (List.getD t72 (Int.toNat t74) (0 : Int)), t72, t73, t74, (Int.toNat t10), t3, t1, t10, (List.getD t72 (Int.toNat t74) (0 : Int)), (Int.toNat t10), ()), (t7, ())) with | some ((t1_2, t3_2, t7_2, t8_2, t9_2, t10_2, t14, t15, t72_2, t73_2, t74_2, ()), ()) => guardB (inb t14 (List.length t7_2)) (bif (decide (((List.getD t7_2 (Int.toNat t14) ((0 : Int), (0 : Int))).1) < (0 : Int))) then (guardB (inb t14 (List.length t7_2)) (some (.inl ((t1_2, t3_2, (List.set t7_2 (Int.toNat t14) t15), t8_2, t9_2, t10_2, t72_2, t73_2, (w64 (t74_2 + (1 : Int))), ()), ())))) else (guardB (inb t14 (List.length t7_2)) (match impl_toll_less (t15, (List.getD t7_2 (Int.toNat t14) ((0 : Int), (0 : Int))), ()) () with | some ((r, ()), ()) => (bif r then (guardB (inb t14 (List.length t7_2)) (some (.inl ((t1_2, t3_2, (List.set t7_2 (Int.toNat t14) t15), t8_2, t9_2, t10_2, t72_2, t73_2, (w64 (t74_2 + (1 : Int))), ()), ())))) else (some (.inl ((t1_2, t3_2, t7_2, t8_2, t9_2, t10_2, t72_2, t73_2, (w64 (t74_2 + (1 : Int))), ()), ())))) | none => none))) | none => none)))) else (some (.inr ((t1, t3, t7, t8, t9, ()), ())))
abbrev impl_Space_tolls_O2 : Out := .one .ret impl_Space_tolls_J4
noncomputable def impl_Space_tolls_B2 : impl_Space_tolls_J3.P → Option (impl_Space_tolls_J3.P ⊕ impl_Space_tolls_O2.P)
  | ((t1, t3, t7, t8, t9, ()), ()) => match loopO impl_Space_tolls_B0 ((t1, t3, t7, t8, t9, (-1 : Int), (List.length t7 : Int), (0 : Int), ()), ()) with | some ((t1_2, t3_2, t7_2, t8_2, t9_2, t10, ()), ()) => (bif (decide (t10 < (0 : Int))) then (some (.inr ((t7_2, ()), ()))) else (guardB (inb t10 (List.length t8_2)) (guardB (inb t10 (List.length t9_2)) (match loopO impl_Space_tolls_B1 ((t1_2, t3_2, t7_2, (List.set t8_2 (Int.toNat t10) true), t9_2, t10, (List.getD t9_2 (Int.toNat t10) ([] : (List Int))), (List.length (List.getD t9_2 (Int.toNat t10) ([] : (List Int))) : Int), (0 : Int), ()), ()) with | some ((t1_3, t3_3, t7_3, t8_3, t9_3, ()), ()) => some (.inl ((t1_3, t3_3, t7_3, t8_3, t9_3, ()), ())) | none => none)))) | none => none
noncomputable def impl_Space_tolls : argP impl_Space_tolls_a → obP (extObs 0 impl_Space_tolls_o) → Option impl_Space_tolls_E.P
  | (t0, t1, t2, ()), () => match impl_Space_tolls_D0 ((t1, t2, t0, ((-1 : Int), (0 : Int)), (List.length t0.1 : Int), (List.length t0.1 : Int), t0, ()), ()) with | some ((t1_2, t2_2, t3, t7, t8, t9, ()), ()) => guardB (inb t2_2 (List.length t7)) (match loopO impl_Space_tolls_B2 ((t1_2, t3, (List.set t7 (Int.toNat t2_2) ((0 : Int), (0 : Int))), t8, t9, ()), ()) with | some ((t6, ()), ()) => some ((t6, ()), ()) | none => none) | none => none
noncomputable def impl_Space_tolls_x : Cx := ⟨tab, impl_Space_weight_e, fun _ _ => 0, fun _ => false, [(17, 0), (27, 0), (27, 1), (27, 2), (27, 3), (9, 0), (58, 0), (58, 1), (58, 2), (58, 3), (87, 0), (87, 1), (87, 2), (87, 3), (108, 0), (108, 1), (108, 2), (108, 3)], [(3, 0), (12, 0), (15, 0)]⟩
noncomputable def c75 : Code := bodyOf Try.f75
noncomputable def impl_Space_tolls_A : Ann := .seq .nil (.seq (.draws [(0, .flo), (2, .flo), (3, .flo), (4, .flo), (6, .flo), (7, .flo), (8, .flo), (10, .flo)] impl_Space_tolls_J5 impl_Space_tolls_T0) (.seq .nil (.loop impl_Space_tolls_J3 impl_Space_tolls_O2 impl_Space_tolls_B2 (.seq .nil (.seq (.seq .nil (.loop impl_Space_tolls_J0 impl_Space_tolls_O0 impl_Space_tolls_B0 (.seq .nil (.seq .nil (.seq (.seq .nil (.seq (.draw [(0, .flo), (1, .flo), (2, .flo), (3, .flo), (4, .flo), (5, .flo), (6, .flo), (7, .qui), (8, .flo), (9, .flo), (10, .flo), (11, .flo), (12, .flo), (13, .flo), (14, .flo), (15, .flo), (16, .flo), (17, .flo), (18, .qui), (19, .sole), (20, .flo), (21, .flo)]) .nil)) .nil))))) (.seq .nil (.seq .nil (.seq .nil (.loop impl_Space_tolls_J2 impl_Space_tolls_O1 impl_Space_tolls_B1 (.seq .nil (.seq .nil (.seq (.seq .nil (.seq (.draws [(0, .flo), (1, .flo), (2, .flo), (3, .flo), (5, .flo), (6, .flo), (7, .flo), (8, .flo), (11, .flo), (12, .flo), (13, .flo), (14, .flo)] impl_Space_tolls_J6 impl_Space_tolls_T3) (.seq (.draw [(0, .flo), (1, .flo), (2, .flo), (3, .flo), (4, .qui), (5, .flo), (6, .flo), (7, .flo), (8, .flo), (9, .flo), (10, .flo), (11, .qui), (12, .sole), (13, .flo)]) .nil))) .nil))))))))))))
theorem impl_Space_tolls_D0b0 (p : impl_Space_tolls_J7.P) : runDrawn impl_Space_tolls_x (opsOf (subc [1, 0] c75)) [(1, .sole)] (impl_Space_tolls_J7.S p) (endT impl_Space_tolls_x impl_Space_tolls_T1) = impl_Space_tolls_D0 p := by kernel_rfl
theorem impl_Space_tolls_D1b0 (p : impl_Space_tolls_J8.P) : runDrawn impl_Space_tolls_x (opsOf (subc [1, 0] c75)) [(5, .sole)] (impl_Space_tolls_J8.S p) (endT impl_Space_tolls_x impl_Space_tolls_T2) = impl_Space_tolls_D1 p := by kernel_rfl
theorem impl_Space_tolls_D2b0 (p : impl_Space_tolls_J9.P) : runDrawn impl_Space_tolls_x (opsOf (subc [1, 0] c75)) [(9, .sole), (11, .sole), (12, .flo), (13, .flo), (14, .flo)] (impl_Space_tolls_J9.S p) (endT impl_Space_tolls_x (.fin : DT impl_Space_tolls_J5)) = impl_Space_tolls_D2 p := by kernel_rfl
noncomputable def impl_Space_tolls_D2v1 : impl_Space_tolls_J9.P → Option impl_Space_tolls_J5.P
  | ((t1, t2, t3, t21, t24, t26, ()), ()) => match impl_Space_roads (t26, ()) () with | some ((r, ()), ()) => guardB (decide (0 ≤ t24) && decide (t24 ≤ t24) && decide (t24 * 1 ≤ 140737488355328)) (some ((t1, t2, t3, t21, (List.replicate (Int.toNat t24) false), r, ()), ())) | none => none
theorem impl_Space_tolls_D2v1_eq : ∀ p, impl_Space_tolls_D2v1 p = impl_Space_tolls_D2 p
  | ((t1, t2, t3, t21, t24, t26, ()), ()) => by
    simp only [impl_Space_tolls_D2v1, impl_Space_tolls_D0, impl_Space_tolls_D1, impl_Space_tolls_D2, impl_Space_tolls_D3, impl_Space_tolls_D4, impl_Space_tolls_D5, impl_Space_tolls_D6, impl_Space_tolls_D7, impl_Space_tolls_D8, impl_Space_tolls_D9, guardB, Bool.cond_eq_ite]
    (repeat' split) <;> simp_all
theorem impl_Space_tolls_D2b1 (p : impl_Space_tolls_J9.P) : runDrawn impl_Space_tolls_x (opsOf (subc [1, 0] c75)) [(11, .sole), (12, .flo), (9, .sole), (13, .flo), (14, .flo)] (impl_Space_tolls_J9.S p) (endT impl_Space_tolls_x (.fin : DT impl_Space_tolls_J5)) = impl_Space_tolls_D2 p := (by kernel_rfl : runDrawn impl_Space_tolls_x (opsOf (subc [1, 0] c75)) [(11, .sole), (12, .flo), (9, .sole), (13, .flo), (14, .flo)] (impl_Space_tolls_J9.S p) (endT impl_Space_tolls_x (.fin : DT impl_Space_tolls_J5)) = impl_Space_tolls_D2v1 p).trans (impl_Space_tolls_D2v1_eq p)
noncomputable def impl_Space_tolls_D1v1 : impl_Space_tolls_J8.P → Option impl_Space_tolls_J5.P
  | ((t1, t2, t3, t17, t20, t24, t26, ()), ()) => guardB (decide (0 ≤ t24) && decide (t24 ≤ t24) && decide (t24 * 1 ≤ 140737488355328)) (match slices_Repeat_impl_toll_impl_toll (t17, t20, ()) () with | some ((r, ()), ()) => (match impl_Space_roads (t26, ()) () with | some ((r2, ()), ()) => some ((t1, t2, t3, r, (List.replicate (Int.toNat t24) false), r2, ()), ()) | none => none) | none => none)
theorem impl_Space_tolls_D1v1_eq : ∀ p, impl_Space_tolls_D1v1 p = impl_Space_tolls_D1 p
  | ((t1, t2, t3, t17, t20, t24, t26, ()), ()) => by
    simp only [impl_Space_tolls_D1v1, impl_Space_tolls_D0, impl_Space_tolls_D1, impl_Space_tolls_D2, impl_Space_tolls_D3, impl_Space_tolls_D4, impl_Space_tolls_D5, impl_Space_tolls_D6, impl_Space_tolls_D7, impl_Space_tolls_D8, impl_Space_tolls_D9, guardB, Bool.cond_eq_ite]
    (repeat' split) <;> simp_all
theorem impl_Space_tolls_D1b1 (p : impl_Space_tolls_J8.P) : runDrawn impl_Space_tolls_x (opsOf (subc [1, 0] c75)) [(9, .sole), (5, .sole), (11, .sole), (12, .flo), (13, .flo), (14, .flo)] (impl_Space_tolls_J8.S p) (endT impl_Space_tolls_x (.fin : DT impl_Space_tolls_J5)) = impl_Space_tolls_D1 p := (by kernel_rfl : runDrawn impl_Space_tolls_x (opsOf (subc [1, 0] c75)) [(9, .sole), (5, .sole), (11, .sole), (12, .flo), (13, .flo), (14, .flo)] (impl_Space_tolls_J8.S p) (endT impl_Space_tolls_x (.fin : DT impl_Space_tolls_J5)) = impl_Space_tolls_D1v1 p).trans (impl_Space_tolls_D1v1_eq p)
noncomputable def impl_Space_tolls_D0v1 : impl_Space_tolls_J7.P → Option impl_Space_tolls_J5.P
  | ((t1, t2, t3, t16, t20, t24, t26, ()), ()) => guardB (decide (0 ≤ t24) && decide (t24 ≤ t24) && decide (t24 * 1 ≤ 140737488355328)) (match slices_Repeat_impl_toll_impl_toll ([t16], t20, ()) () with | some ((r, ()), ()) => (match impl_Space_roads (t26, ()) () with | some ((r2, ()), ()) => some ((t1, t2, t3, r, (List.replicate (Int.toNat t24) false), r2, ()), ()) | none => none) | none => none)
theorem impl_Space_tolls_D0v1_eq : ∀ p, impl_Space_tolls_D0v1 p = impl_Space_tolls_D0 p
  | ((t1, t2, t3, t16, t20, t24, t26, ()), ()) => by
    simp only [impl_Space_tolls_D0v1, impl_Space_tolls_D0, impl_Space_tolls_D1, impl_Space_tolls_D2, impl_Space_tolls_D3, impl_Space_tolls_D4, impl_Space_tolls_D5, impl_Space_tolls_D6, impl_Space_tolls_D7, impl_Space_tolls_D8, impl_Space_tolls_D9, guardB, Bool.cond_eq_ite]
    (repeat' split) <;> simp_all
theorem impl_Space_tolls_D0b1 (p : impl_Space_tolls_J7.P) : runDrawn impl_Space_tolls_x (opsOf (subc [1, 0] c75)) [(9, .sole), (1, .sole), (5, .sole), (11, .sole), (12, .flo), (13, .flo), (14, .flo)] (impl_Space_tolls_J7.S p) (endT impl_Space_tolls_x (.fin : DT impl_Space_tolls_J5)) = impl_Space_tolls_D0 p := (by kernel_rfl : runDrawn impl_Space_tolls_x (opsOf (subc [1, 0] c75)) [(9, .sole), (1, .sole), (5, .sole), (11, .sole), (12, .flo), (13, .flo), (14, .flo)] (impl_Space_tolls_J7.S p) (endT impl_Space_tolls_x (.fin : DT impl_Space_tolls_J5)) = impl_Space_tolls_D0v1 p).trans (impl_Space_tolls_D0v1_eq p)
theorem impl_Space_tolls_r1 (p : impl_Space_tolls_J3.P) : run impl_Space_tolls_x (subc [1, 1, 1, 0, 0] c75) (.seq .nil (.seq (.seq .nil (.loop impl_Space_tolls_J0 impl_Space_tolls_O0 impl_Space_tolls_B0 (.seq .nil (.seq .nil (.seq (.seq .nil (.seq (.draw [(0, .flo), (1, .flo), (2, .flo), (3, .flo), (4, .flo), (5, .flo), (6, .flo), (7, .qui), (8, .flo), (9, .flo), (10, .flo), (11, .flo), (12, .flo), (13, .flo), (14, .flo), (15, .flo), (16, .flo), (17, .flo), (18, .qui), (19, .sole), (20, .flo), (21, .flo)]) .nil)) .nil))))) (.seq .nil (.seq .nil (.seq .nil (.loop impl_Space_tolls_J2 impl_Space_tolls_O1 impl_Space_tolls_B1 (.seq .nil (.seq .nil (.seq (.seq .nil (.seq (.draws [(0, .flo), (1, .flo), (2, .flo), (3, .flo), (5, .flo), (6, .flo), (7, .flo), (8, .flo), (11, .flo), (12, .flo), (13, .flo), (14, .flo)] impl_Space_tolls_J6 impl_Space_tolls_T3) (.seq (.draw [(0, .flo), (1, .flo), (2, .flo), (3, .flo), (4, .qui), (5, .flo), (6, .flo), (7, .flo), (8, .flo), (9, .flo), (10, .flo), (11, .qui), (12, .sole), (13, .flo)]) .nil))) .nil))))))))) (impl_Space_tolls_J3.S p) (leaf impl_Space_tolls_J3 impl_Space_tolls_O2) = impl_Space_tolls_B2 p := by kernel_rfl
theorem impl_Space_tolls_r2 (p : impl_Space_tolls_J0.P) : run impl_Space_tolls_x (subc [1, 1, 1, 0, 0, 0, 1, 0, 1, 0, 0] c75) (.seq .nil (.seq .nil (.seq (.seq .nil (.seq (.draw [(0, .flo), (1, .flo), (2, .flo), (3, .flo), (4, .flo), (5, .flo), (6, .flo), (7, .qui), (8, .flo), (9, .flo), (10, .flo), (11, .flo), (12, .flo), (13, .flo), (14, .flo), (15, .flo), (16, .flo), (17, .flo), (18, .qui), (19, .sole), (20, .flo), (21, .flo)]) .nil)) .nil))) (impl_Space_tolls_J0.S p) (leaf impl_Space_tolls_J0 impl_Space_tolls_O0) = impl_Space_tolls_B0 p := by kernel_rfl
theorem impl_Space_tolls_r3 (p : impl_Space_tolls_J2.P) : run impl_Space_tolls_x (subc [1, 1, 1, 0, 0, 0, 1, 1, 1, 1, 1, 0, 0] c75) (.seq .nil (.seq .nil (.seq (.seq .nil (.seq (.draws [(0, .flo), (1, .flo), (2, .flo), (3, .flo), (5, .flo), (6, .flo), (7, .flo), (8, .flo), (11, .flo), (12, .flo), (13, .flo), (14, .flo)] impl_Space_tolls_J6 impl_Space_tolls_T3) (.seq (.draw [(0, .flo), (1, .flo), (2, .flo), (3, .flo), (4, .qui), (5, .flo), (6, .flo), (7, .flo), (8, .flo), (9, .flo), (10, .flo), (11, .qui), (12, .sole), (13, .flo)]) .nil))) .nil))) (impl_Space_tolls_J2.S p) (leaf impl_Space_tolls_J2 impl_Space_tolls_O1) = impl_Space_tolls_B1 p := by kernel_rfl
theorem impl_Space_tolls_D3b0 (p : impl_Space_tolls_J10.P) : runDrawn impl_Space_tolls_x (opsOf (subc [1, 1, 1, 0, 0, 0, 1, 1, 1, 1, 1, 0, 0, 1, 1, 0, 0, 1, 0] c75)) [(4, .sole)] (impl_Space_tolls_J10.S p) (endT impl_Space_tolls_x impl_Space_tolls_T4) = impl_Space_tolls_D3 p := by kernel_rfl
theorem impl_Space_tolls_D4b0 (p : impl_Space_tolls_J11.P) : runDrawn impl_Space_tolls_x (opsOf (subc [1, 1, 1, 0, 0, 0, 1, 1, 1, 1, 1, 0, 0, 1, 1, 0, 0, 1, 0] c75)) [(9, .sole), (10, .flo), (15, .qui), (16, .flo), (17, .flo), (18, .sole), (19, .sole)] (impl_Space_tolls_J11.S p) (endT impl_Space_tolls_x (.fin : DT impl_Space_tolls_J6)) = impl_Space_tolls_D4 p := by kernel_rfl
theorem impl_Space_tolls_D4b1 (p : impl_Space_tolls_J11.P) : runDrawn impl_Space_tolls_x (opsOf (subc [1, 1, 1, 0, 0, 0, 1, 1, 1, 1, 1, 0, 0, 1, 1, 0, 0, 1, 0] c75)) [(15, .sole), (16, .flo)] (impl_Space_tolls_J11.S p) (endT impl_Space_tolls_x impl_Space_tolls_T5) = impl_Space_tolls_D4 p := by kernel_rfl
theorem impl_Space_tolls_D5b0 (p : impl_Space_tolls_J12.P) : runDrawn impl_Space_tolls_x (opsOf (subc [1, 1, 1, 0, 0, 0, 1, 1, 1, 1, 1, 0, 0, 1, 1, 0, 0, 1, 0] c75)) [(9, .sole), (10, .flo), (17, .flo), (18, .sole), (19, .sole)] (impl_Space_tolls_J12.S p) (endT impl_Space_tolls_x (.fin : DT impl_Space_tolls_J6)) = impl_Space_tolls_D5 p := by kernel_rfl
theorem impl_Space_tolls_D5b1 (p : impl_Space_tolls_J12.P) : runDrawn impl_Space_tolls_x (opsOf (subc [1, 1, 1, 0, 0, 0, 1, 1, 1, 1, 1, 0, 0, 1, 1, 0, 0, 1, 0] c75)) [(18, .sole), (9, .sole), (10, .flo), (17, .flo), (19, .sole)] (impl_Space_tolls_J12.S p) (endT impl_Space_tolls_x (.fin : DT impl_Space_tolls_J6)) = impl_Space_tolls_D5 p := by kernel_rfl
theorem impl_Space_tolls_D4b2 (p : impl_Space_tolls_J11.P) : runDrawn impl_Space_tolls_x (opsOf (subc [1, 1, 1, 0, 0, 0, 1, 1, 1, 1, 1, 0, 0, 1, 1, 0, 0, 1, 0] c75)) [(18, .sole)] (impl_Space_tolls_J11.S p) (endT impl_Space_tolls_x impl_Space_tolls_T6) = impl_Space_tolls_D4 p := by kernel_rfl
theorem impl_Space_tolls_D6b0 (p : impl_Space_tolls_J13.P) : runDrawn impl_Space_tolls_x (opsOf (subc [1, 1, 1, 0, 0, 0, 1, 1, 1, 1, 1, 0, 0, 1, 1, 0, 0, 1, 0] c75)) [(9, .sole), (10, .flo), (15, .qui), (16, .flo), (17, .flo), (19, .sole)] (impl_Space_tolls_J13.S p) (endT impl_Space_tolls_x (.fin : DT impl_Space_tolls_J6)) = impl_Space_tolls_D6 p := by kernel_rfl
theorem impl_Space_tolls_D6b1 (p : impl_Space_tolls_J13.P) : runDrawn impl_Space_tolls_x (opsOf (subc [1, 1, 1, 0, 0, 0, 1, 1, 1, 1, 1, 0, 0, 1, 1, 0, 0, 1, 0] c75)) [(15, .sole), (16, .flo), (9, .sole), (10, .flo), (17, .flo), (19, .sole)] (impl_Space_tolls_J13.S p) (endT impl_Space_tolls_x (.fin : DT impl_Space_tolls_J6)) = impl_Space_tolls_D6 p := by kernel_rfl
theorem impl_Space_tolls_D3b1 (p : impl_Space_tolls_J10.P) : runDrawn impl_Space_tolls_x (opsOf (subc [1, 1, 1, 0, 0, 0, 1, 1, 1, 1, 1, 0, 0, 1, 1, 0, 0, 1, 0] c75)) [(9, .sole), (4, .qui), (10, .flo), (15, .qui), (16, .flo), (17, .flo), (18, .sole), (19, .sole)] (impl_Space_tolls_J10.S p) (endT impl_Space_tolls_x (.fin : DT impl_Space_tolls_J6)) = impl_Space_tolls_D3 p := by kernel_rfl
theorem impl_Space_tolls_D3b2 (p : impl_Space_tolls_J10.P) : runDrawn impl_Space_tolls_x (opsOf (subc [1, 1, 1, 0, 0, 0, 1, 1, 1, 1, 1, 0, 0, 1, 1, 0, 0, 1, 0] c75)) [(15, .sole), (16, .flo)] (impl_Space_tolls_J10.S p) (endT impl_Space_tolls_x impl_Space_tolls_T7) = impl_Space_tolls_D3 p := by kernel_rfl
theorem impl_Space_tolls_D7b0 (p : impl_Space_tolls_J14.P) : runDrawn impl_Space_tolls_x (opsOf (subc [1, 1, 1, 0, 0, 0, 1, 1, 1, 1, 1, 0, 0, 1, 1, 0, 0, 1, 0] c75)) [(4, .sole)] (impl_Space_tolls_J14.S p) (endT impl_Space_tolls_x impl_Space_tolls_T5) = impl_Space_tolls_D7 p := by kernel_rfl
theorem impl_Space_tolls_D7b1 (p : impl_Space_tolls_J14.P) : runDrawn impl_Space_tolls_x (opsOf (subc [1, 1, 1, 0, 0, 0, 1, 1, 1, 1, 1, 0, 0, 1, 1, 0, 0, 1, 0] c75)) [(9, .sole), (4, .qui), (10, .flo), (17, .flo), (18, .sole), (19, .sole)] (impl_Space_tolls_J14.S p) (endT impl_Space_tolls_x (.fin : DT impl_Space_tolls_J6)) = impl_Space_tolls_D7 p := by kernel_rfl
theorem impl_Space_tolls_D7b2 (p : impl_Space_tolls_J14.P) : runDrawn impl_Space_tolls_x (opsOf (subc [1, 1, 1, 0, 0, 0, 1, 1, 1, 1, 1, 0, 0, 1, 1, 0, 0, 1, 0] c75)) [(18, .sole)] (impl_Space_tolls_J14.S p) (endT impl_Space_tolls_x impl_Space_tolls_T8) = impl_Space_tolls_D7 p := by kernel_rfl
theorem impl_Space_tolls_D8b0 (p : impl_Space_tolls_J15.P) : runDrawn impl_Space_tolls_x (opsOf (subc [1, 1, 1, 0, 0, 0, 1, 1, 1, 1, 1, 0, 0, 1, 1, 0, 0, 1, 0] c75)) [(4, .sole), (9, .sole), (10, .flo), (17, .flo), (19, .sole)] (impl_Space_tolls_J15.S p) (endT impl_Space_tolls_x (.fin : DT impl_Space_tolls_J6)) = impl_Space_tolls_D8 p := by kernel_rfl
theorem impl_Space_tolls_D8b1 (p : impl_Space_tolls_J15.P) : runDrawn impl_Space_tolls_x (opsOf (subc [1, 1, 1, 0, 0, 0, 1, 1, 1, 1, 1, 0, 0, 1, 1, 0, 0, 1, 0] c75)) [(9, .sole), (4, .qui), (10, .flo), (17, .flo), (19, .sole)] (impl_Space_tolls_J15.S p) (endT impl_Space_tolls_x (.fin : DT impl_Space_tolls_J6)) = impl_Space_tolls_D8 p := by kernel_rfl
theorem impl_Space_tolls_D3b3 (p : impl_Space_tolls_J10.P) : runDrawn impl_Space_tolls_x (opsOf (subc [1, 1, 1, 0, 0, 0, 1, 1, 1, 1, 1, 0, 0, 1, 1, 0, 0, 1, 0] c75)) [(18, .sole)] (impl_Space_tolls_J10.S p) (endT impl_Space_tolls_x impl_Space_tolls_T9) = impl_Space_tolls_D3 p := by kernel_rfl
theorem impl_Space_tolls_D9b0 (p : impl_Space_tolls_J16.P) : runDrawn impl_Space_tolls_x (opsOf (subc [1, 1, 1, 0, 0, 0, 1, 1, 1, 1, 1, 0, 0, 1, 1, 0, 0, 1, 0] c75)) [(4, .sole)] (impl_Space_tolls_J16.S p) (endT impl_Space_tolls_x impl_Space_tolls_T6) = impl_Space_tolls_D9 p := by kernel_rfl
theorem impl_Space_tolls_D9b1 (p : impl_Space_tolls_J16.P) : runDrawn impl_Space_tolls_x (opsOf (subc [1, 1, 1, 0, 0, 0, 1, 1, 1, 1, 1, 0, 0, 1, 1, 0, 0, 1, 0] c75)) [(9, .sole), (4, .qui), (10, .flo), (15, .qui), (16, .flo), (17, .flo), (19, .sole)] (impl_Space_tolls_J16.S p) (endT impl_Space_tolls_x (.fin : DT impl_Space_tolls_J6)) = impl_Space_tolls_D9 p := by kernel_rfl
theorem impl_Space_tolls_D9b2 (p : impl_Space_tolls_J16.P) : runDrawn impl_Space_tolls_x (opsOf (subc [1, 1, 1, 0, 0, 0, 1, 1, 1, 1, 1, 0, 0, 1, 1, 0, 0, 1, 0] c75)) [(15, .sole), (16, .flo)] (impl_Space_tolls_J16.S p) (endT impl_Space_tolls_x impl_Space_tolls_T8) = impl_Space_tolls_D9 p := by kernel_rfl
noncomputable def impl_Space_tolls_D : Ve.Fn := ⟨75, impl_Space_tolls_a, impl_Space_tolls_o, impl_Space_tolls_E, impl_Space_tolls⟩
theorem impl_Space_tolls_w : Walk Try.prog impl_Space_tolls_x impl_Space_tolls_D Try.f75 c75 115 impl_Space_tolls_A :=
  ⟨⟨Try.func75, by kernel_rfl, by kernel_rfl, by kernel_rfl, by decide, by kernel_rfl, Nat.le_of_ble_eq_true (by kernel_rfl)⟩, by kernel_rfl, by kernel_rfl, by kernel_rfl, kcast (by kernel_rfl) (⟨impl_Space_tolls_D0b0, impl_Space_tolls_D1b0, impl_Space_tolls_D2b0, impl_Space_tolls_D2b1, impl_Space_tolls_D1b1, impl_Space_tolls_D0b1, impl_Space_tolls_r1, impl_Space_tolls_r2, impl_Space_tolls_r3, impl_Space_tolls_D3b0, impl_Space_tolls_D4b0, impl_Space_tolls_D4b1, impl_Space_tolls_D5b0, impl_Space_tolls_D5b1, impl_Space_tolls_D4b2, impl_Space_tolls_D6b0, impl_Space_tolls_D6b1, impl_Space_tolls_D3b1, impl_Space_tolls_D3b2, impl_Space_tolls_D7b0, impl_Space_tolls_D5b0, impl_Space_tolls_D5b1, impl_Space_tolls_D7b1, impl_Space_tolls_D7b2, impl_Space_tolls_D8b0, impl_Space_tolls_D8b1, impl_Space_tolls_D3b3, impl_Space_tolls_D9b0, impl_Space_tolls_D6b0, impl_Space_tolls_D6b1, impl_Space_tolls_D9b1, impl_Space_tolls_D9b2, impl_Space_tolls_D8b0, impl_Space_tolls_D8b1, trivial⟩ : (∀ p, runDrawn impl_Space_tolls_x (opsOf (subc [1, 0] c75)) [(1, .sole)] (impl_Space_tolls_J7.S p) (endT impl_Space_tolls_x impl_Space_tolls_T1) = impl_Space_tolls_D0 p) ∧ (∀ p, runDrawn impl_Space_tolls_x (opsOf (subc [1, 0] c75)) [(5, .sole)] (impl_Space_tolls_J8.S p) (endT impl_Space_tolls_x impl_Space_tolls_T2) = impl_Space_tolls_D1 p) ∧ (∀ p, runDrawn impl_Space_tolls_x (opsOf (subc [1, 0] c75)) [(9, .sole), (11, .sole), (12, .flo), (13, .flo), (14, .flo)] (impl_Space_tolls_J9.S p) (endT impl_Space_tolls_x (.fin : DT impl_Space_tolls_J5)) = impl_Space_tolls_D2 p) ∧ (∀ p, runDrawn impl_Space_tolls_x (opsOf (subc [1, 0] c75)) [(11, .sole), (12, .flo), (9, .sole), (13, .flo), (14, .flo)] (impl_Space_tolls_J9.S p) (endT impl_Space_tolls_x (.fin : DT impl_Space_tolls_J5)) = impl_Space_tolls_D2 p) ∧ (∀ p, runDrawn impl_Space_tolls_x (opsOf (subc [1, 0] c75)) [(9, .sole), (5, .sole), (11, .sole), (12, .flo), (13, .flo), (14, .flo)] (impl_Space_tolls_J8.S p) (endT impl_Space_tolls_x (.fin : DT impl_Space_tolls_J5)) = impl_Space_tolls_D1 p) ∧ (∀ p, runDrawn impl_Space_tolls_x (opsOf (subc [1, 0] c75)) [(9, .sole), (1, .sole), (5, .sole), (11, .sole), (12, .flo), (13, .flo), (14, .flo)] (impl_Space_tolls_J7.S p) (endT impl_Space_tolls_x (.fin : DT impl_Space_tolls_J5)) = impl_Space_tolls_D0 p) ∧ (∀ p, run impl_Space_tolls_x (subc [1, 1, 1, 0, 0] c75) (.seq .nil (.seq (.seq .nil (.loop impl_Space_tolls_J0 impl_Space_tolls_O0 impl_Space_tolls_B0 (.seq .nil (.seq .nil (.seq (.seq .nil (.seq (.draw [(0, .flo), (1, .flo), (2, .flo), (3, .flo), (4, .flo), (5, .flo), (6, .flo), (7, .qui), (8, .flo), (9, .flo), (10, .flo), (11, .flo), (12, .flo), (13, .flo), (14, .flo), (15, .flo), (16, .flo), (17, .flo), (18, .qui), (19, .sole), (20, .flo), (21, .flo)]) .nil)) .nil))))) (.seq .nil (.seq .nil (.seq .nil (.loop impl_Space_tolls_J2 impl_Space_tolls_O1 impl_Space_tolls_B1 (.seq .nil (.seq .nil (.seq (.seq .nil (.seq (.draws [(0, .flo), (1, .flo), (2, .flo), (3, .flo), (5, .flo), (6, .flo), (7, .flo), (8, .flo), (11, .flo), (12, .flo), (13, .flo), (14, .flo)] impl_Space_tolls_J6 impl_Space_tolls_T3) (.seq (.draw [(0, .flo), (1, .flo), (2, .flo), (3, .flo), (4, .qui), (5, .flo), (6, .flo), (7, .flo), (8, .flo), (9, .flo), (10, .flo), (11, .qui), (12, .sole), (13, .flo)]) .nil))) .nil))))))))) (impl_Space_tolls_J3.S p) (leaf impl_Space_tolls_J3 impl_Space_tolls_O2) = impl_Space_tolls_B2 p) ∧ (∀ p, run impl_Space_tolls_x (subc [1, 1, 1, 0, 0, 0, 1, 0, 1, 0, 0] c75) (.seq .nil (.seq .nil (.seq (.seq .nil (.seq (.draw [(0, .flo), (1, .flo), (2, .flo), (3, .flo), (4, .flo), (5, .flo), (6, .flo), (7, .qui), (8, .flo), (9, .flo), (10, .flo), (11, .flo), (12, .flo), (13, .flo), (14, .flo), (15, .flo), (16, .flo), (17, .flo), (18, .qui), (19, .sole), (20, .flo), (21, .flo)]) .nil)) .nil))) (impl_Space_tolls_J0.S p) (leaf impl_Space_tolls_J0 impl_Space_tolls_O0) = impl_Space_tolls_B0 p) ∧ (∀ p, run impl_Space_tolls_x (subc [1, 1, 1, 0, 0, 0, 1, 1, 1, 1, 1, 0, 0] c75) (.seq .nil (.seq .nil (.seq (.seq .nil (.seq (.draws [(0, .flo), (1, .flo), (2, .flo), (3, .flo), (5, .flo), (6, .flo), (7, .flo), (8, .flo), (11, .flo), (12, .flo), (13, .flo), (14, .flo)] impl_Space_tolls_J6 impl_Space_tolls_T3) (.seq (.draw [(0, .flo), (1, .flo), (2, .flo), (3, .flo), (4, .qui), (5, .flo), (6, .flo), (7, .flo), (8, .flo), (9, .flo), (10, .flo), (11, .qui), (12, .sole), (13, .flo)]) .nil))) .nil))) (impl_Space_tolls_J2.S p) (leaf impl_Space_tolls_J2 impl_Space_tolls_O1) = impl_Space_tolls_B1 p) ∧ (∀ p, runDrawn impl_Space_tolls_x (opsOf (subc [1, 1, 1, 0, 0, 0, 1, 1, 1, 1, 1, 0, 0, 1, 1, 0, 0, 1, 0] c75)) [(4, .sole)] (impl_Space_tolls_J10.S p) (endT impl_Space_tolls_x impl_Space_tolls_T4) = impl_Space_tolls_D3 p) ∧ (∀ p, runDrawn impl_Space_tolls_x (opsOf (subc [1, 1, 1, 0, 0, 0, 1, 1, 1, 1, 1, 0, 0, 1, 1, 0, 0, 1, 0] c75)) [(9, .sole), (10, .flo), (15, .qui), (16, .flo), (17, .flo), (18, .sole), (19, .sole)] (impl_Space_tolls_J11.S p) (endT impl_Space_tolls_x (.fin : DT impl_Space_tolls_J6)) = impl_Space_tolls_D4 p) ∧ (∀ p, runDrawn impl_Space_tolls_x (opsOf (subc [1, 1, 1, 0, 0, 0, 1, 1, 1, 1, 1, 0, 0, 1, 1, 0, 0, 1, 0] c75)) [(15, .sole), (16, .flo)] (impl_Space_tolls_J11.S p) (endT impl_Space_tolls_x impl_Space_tolls_T5) = impl_Space_tolls_D4 p) ∧ (∀ p, runDrawn impl_Space_tolls_x (opsOf (subc [1, 1, 1, 0, 0, 0, 1, 1, 1, 1, 1, 0, 0, 1, 1, 0, 0, 1, 0] c75)) [(9, .sole), (10, .flo), (17, .flo), (18, .sole), (19, .sole)] (impl_Space_tolls_J12.S p) (endT impl_Space_tolls_x (.fin : DT impl_Space_tolls_J6)) = impl_Space_tolls_D5 p) ∧ (∀ p, runDrawn impl_Space_tolls_x (opsOf (subc [1, 1, 1, 0, 0, 0, 1, 1, 1, 1, 1, 0, 0, 1, 1, 0, 0, 1, 0] c75)) [(18, .sole), (9, .sole), (10, .flo), (17, .flo), (19, .sole)] (impl_Space_tolls_J12.S p) (endT impl_Space_tolls_x (.fin : DT impl_Space_tolls_J6)) = impl_Space_tolls_D5 p) ∧ (∀ p, runDrawn impl_Space_tolls_x (opsOf (subc [1, 1, 1, 0, 0, 0, 1, 1, 1, 1, 1, 0, 0, 1, 1, 0, 0, 1, 0] c75)) [(18, .sole)] (impl_Space_tolls_J11.S p) (endT impl_Space_tolls_x impl_Space_tolls_T6) = impl_Space_tolls_D4 p) ∧ (∀ p, runDrawn impl_Space_tolls_x (opsOf (subc [1, 1, 1, 0, 0, 0, 1, 1, 1, 1, 1, 0, 0, 1, 1, 0, 0, 1, 0] c75)) [(9, .sole), (10, .flo), (15, .qui), (16, .flo), (17, .flo), (19, .sole)] (impl_Space_tolls_J13.S p) (endT impl_Space_tolls_x (.fin : DT impl_Space_tolls_J6)) = impl_Space_tolls_D6 p) ∧ (∀ p, runDrawn impl_Space_tolls_x (opsOf (subc [1, 1, 1, 0, 0, 0, 1, 1, 1, 1, 1, 0, 0, 1, 1, 0, 0, 1, 0] c75)) [(15, .sole), (16, .flo), (9, .sole), (10, .flo), (17, .flo), (19, .sole)] (impl_Space_tolls_J13.S p) (endT impl_Space_tolls_x (.fin : DT impl_Space_tolls_J6)) = impl_Space_tolls_D6 p) ∧ (∀ p, runDrawn impl_Space_tolls_x (opsOf (subc [1, 1, 1, 0, 0, 0, 1, 1, 1, 1, 1, 0, 0, 1, 1, 0, 0, 1, 0] c75)) [(9, .sole), (4, .qui), (10, .flo), (15, .qui), (16, .flo), (17, .flo), (18, .sole), (19, .sole)] (impl_Space_tolls_J10.S p) (endT impl_Space_tolls_x (.fin : DT impl_Space_tolls_J6)) = impl_Space_tolls_D3 p) ∧ (∀ p, runDrawn impl_Space_tolls_x (opsOf (subc [1, 1, 1, 0, 0, 0, 1, 1, 1, 1, 1, 0, 0, 1, 1, 0, 0, 1, 0] c75)) [(15, .sole), (16, .flo)] (impl_Space_tolls_J10.S p) (endT impl_Space_tolls_x impl_Space_tolls_T7) = impl_Space_tolls_D3 p) ∧ (∀ p, runDrawn impl_Space_tolls_x (opsOf (subc [1, 1, 1, 0, 0, 0, 1, 1, 1, 1, 1, 0, 0, 1, 1, 0, 0, 1, 0] c75)) [(4, .sole)] (impl_Space_tolls_J14.S p) (endT impl_Space_tolls_x impl_Space_tolls_T5) = impl_Space_tolls_D7 p) ∧ (∀ p, runDrawn impl_Space_tolls_x (opsOf (subc [1, 1, 1, 0, 0, 0, 1, 1, 1, 1, 1, 0, 0, 1, 1, 0, 0, 1, 0] c75)) [(9, .sole), (10, .flo), (17, .flo), (18, .sole), (19, .sole)] (impl_Space_tolls_J12.S p) (endT impl_Space_tolls_x (.fin : DT impl_Space_tolls_J6)) = impl_Space_tolls_D5 p) ∧ (∀ p, runDrawn impl_Space_tolls_x (opsOf (subc [1, 1, 1, 0, 0, 0, 1, 1, 1, 1, 1, 0, 0, 1, 1, 0, 0, 1, 0] c75)) [(18, .sole), (9, .sole), (10, .flo), (17, .flo), (19, .sole)] (impl_Space_tolls_J12.S p) (endT impl_Space_tolls_x (.fin : DT impl_Space_tolls_J6)) = impl_Space_tolls_D5 p) ∧ (∀ p, runDrawn impl_Space_tolls_x (opsOf (subc [1, 1, 1, 0, 0, 0, 1, 1, 1, 1, 1, 0, 0, 1, 1, 0, 0, 1, 0] c75)) [(9, .sole), (4, .qui), (10, .flo), (17, .flo), (18, .sole), (19, .sole)] (impl_Space_tolls_J14.S p) (endT impl_Space_tolls_x (.fin : DT impl_Space_tolls_J6)) = impl_Space_tolls_D7 p) ∧ (∀ p, runDrawn impl_Space_tolls_x (opsOf (subc [1, 1, 1, 0, 0, 0, 1, 1, 1, 1, 1, 0, 0, 1, 1, 0, 0, 1, 0] c75)) [(18, .sole)] (impl_Space_tolls_J14.S p) (endT impl_Space_tolls_x impl_Space_tolls_T8) = impl_Space_tolls_D7 p) ∧ (∀ p, runDrawn impl_Space_tolls_x (opsOf (subc [1, 1, 1, 0, 0, 0, 1, 1, 1, 1, 1, 0, 0, 1, 1, 0, 0, 1, 0] c75)) [(4, .sole), (9, .sole), (10, .flo), (17, .flo), (19, .sole)] (impl_Space_tolls_J15.S p) (endT impl_Space_tolls_x (.fin : DT impl_Space_tolls_J6)) = impl_Space_tolls_D8 p) ∧ (∀ p, runDrawn impl_Space_tolls_x (opsOf (subc [1, 1, 1, 0, 0, 0, 1, 1, 1, 1, 1, 0, 0, 1, 1, 0, 0, 1, 0] c75)) [(9, .sole), (4, .qui), (10, .flo), (17, .flo), (19, .sole)] (impl_Space_tolls_J15.S p) (endT impl_Space_tolls_x (.fin : DT impl_Space_tolls_J6)) = impl_Space_tolls_D8 p) ∧ (∀ p, runDrawn impl_Space_tolls_x (opsOf (subc [1, 1, 1, 0, 0, 0, 1, 1, 1, 1, 1, 0, 0, 1, 1, 0, 0, 1, 0] c75)) [(18, .sole)] (impl_Space_tolls_J10.S p) (endT impl_Space_tolls_x impl_Space_tolls_T9) = impl_Space_tolls_D3 p) ∧ (∀ p, runDrawn impl_Space_tolls_x (opsOf (subc [1, 1, 1, 0, 0, 0, 1, 1, 1, 1, 1, 0, 0, 1, 1, 0, 0, 1, 0] c75)) [(4, .sole)] (impl_Space_tolls_J16.S p) (endT impl_Space_tolls_x impl_Space_tolls_T6) = impl_Space_tolls_D9 p) ∧ (∀ p, runDrawn impl_Space_tolls_x (opsOf (subc [1, 1, 1, 0, 0, 0, 1, 1, 1, 1, 1, 0, 0, 1, 1, 0, 0, 1, 0] c75)) [(9, .sole), (10, .flo), (15, .qui), (16, .flo), (17, .flo), (19, .sole)] (impl_Space_tolls_J13.S p) (endT impl_Space_tolls_x (.fin : DT impl_Space_tolls_J6)) = impl_Space_tolls_D6 p) ∧ (∀ p, runDrawn impl_Space_tolls_x (opsOf (subc [1, 1, 1, 0, 0, 0, 1, 1, 1, 1, 1, 0, 0, 1, 1, 0, 0, 1, 0] c75)) [(15, .sole), (16, .flo), (9, .sole), (10, .flo), (17, .flo), (19, .sole)] (impl_Space_tolls_J13.S p) (endT impl_Space_tolls_x (.fin : DT impl_Space_tolls_J6)) = impl_Space_tolls_D6 p) ∧ (∀ p, runDrawn impl_Space_tolls_x (opsOf (subc [1, 1, 1, 0, 0, 0, 1, 1, 1, 1, 1, 0, 0, 1, 1, 0, 0, 1, 0] c75)) [(9, .sole), (4, .qui), (10, .flo), (15, .qui), (16, .flo), (17, .flo), (19, .sole)] (impl_Space_tolls_J16.S p) (endT impl_Space_tolls_x (.fin : DT impl_Space_tolls_J6)) = impl_Space_tolls_D9 p) ∧ (∀ p, runDrawn impl_Space_tolls_x (opsOf (subc [1, 1, 1, 0, 0, 0, 1, 1, 1, 1, 1, 0, 0, 1, 1, 0, 0, 1, 0] c75)) [(15, .sole), (16, .flo)] (impl_Space_tolls_J16.S p) (endT impl_Space_tolls_x impl_Space_tolls_T8) = impl_Space_tolls_D9 p) ∧ (∀ p, runDrawn impl_Space_tolls_x (opsOf (subc [1, 1, 1, 0, 0, 0, 1, 1, 1, 1, 1, 0, 0, 1, 1, 0, 0, 1, 0] c75)) [(4, .sole), (9, .sole), (10, .flo), (17, .flo), (19, .sole)] (impl_Space_tolls_J15.S p) (endT impl_Space_tolls_x (.fin : DT impl_Space_tolls_J6)) = impl_Space_tolls_D8 p) ∧ (∀ p, runDrawn impl_Space_tolls_x (opsOf (subc [1, 1, 1, 0, 0, 0, 1, 1, 1, 1, 1, 0, 0, 1, 1, 0, 0, 1, 0] c75)) [(9, .sole), (4, .qui), (10, .flo), (17, .flo), (19, .sole)] (impl_Space_tolls_J15.S p) (endT impl_Space_tolls_x (.fin : DT impl_Space_tolls_J6)) = impl_Space_tolls_D8 p) ∧ True), by kernel_rfl, fun x y => by kernel_rfl⟩
theorem impl_Space_tolls_s : impl_Space_tolls_D.Says Try.prog := impl_Space_tolls_w.says follows tabOk impl_Space_weight_e_ok
noncomputable def impl_Space_tolls_e : Env := more impl_Space_weight_e impl_Space_tolls_D
theorem impl_Space_tolls_e_ok : EnvOk Try.prog impl_Space_tolls_e := more_ok impl_Space_weight_e_ok impl_Space_tolls_s
/-! loop.example/g01128/impl.CheapestWay -/
abbrev impl_CheapestWay_J0 : Tpl := ⟨[(1, .val (.list I)), (2, .val I), (3, .val I), (4, .cst (.prod (.list (.list I)) (.list (.prod I I)))), (10, .val (.list (.prod I I))), (11, .val (.list (.list I))), (12, .own .shr I), (51, .val (.list I)), (52, .val I), (53, .val I)], [], []⟩
abbrev impl_CheapestWay_J1 : Tpl := ⟨[(1, .val (.list I)), (2, .val I), (3, .val I), (4, .cst (.prod (.list (.list I)) (.list (.prod I I)))), (10, .val (.list (.prod I I))), (11, .val (.list (.list I))), (12, .own .shr I)], [], []⟩
abbrev impl_CheapestWay_J2 : Tpl := ⟨[(12, .own .shr I)], [], []⟩
abbrev impl_CheapestWay_E : Ve.End := ⟨[⟨8, (.own .shr), (.list I), none⟩, ⟨9, .shr, .bool, none⟩], []⟩
abbrev impl_CheapestWay_a : List ASh := [.val (.prod (.list (.list I)) (.list (.prod I I))), .val (.list I), .val I, .val I]
abbrev impl_CheapestWay_o : List OSh := []
abbrev impl_CheapestWay_O0 : Out := .one (.ex 2) impl_CheapestWay_J1
noncomputable def impl_CheapestWay_B0 : impl_CheapestWay_J0.P → Option (impl_CheapestWay_J0.P ⊕ impl_CheapestWay_O0.P)
  | ((t1, t2, t3, t4, t10, t11, t12, t51, t52, t53, ()), ()) => bif (decide (t53 < t52)) then (guardB (inb t53 (List.length t51)) (guardB (inb t2 (List.length t10)) (guardB (inb (List.getD t51 (Int.toNat t53) (0 : Int)) (List.length t10)) (guardB (inb (List.getD t51 (Int.toNat t53) (0 : Int)) (List.length t10)) (match impl_Space_weight (t4, t1, t2, (List.getD t51 (Int.toNat t53) (0 : Int)), ()) () with | some ((r, ()), ()) => (bif ((((List.getD t10 (Int.toNat t2) ((0 : Int), (0 : Int))).1) == (w64 (((List.getD t10 (Int.toNat (List.getD t51 (Int.toNat t53) (0 : Int))) ((0 : Int), (0 : Int))).1) + r))) && (((List.getD t10 (Int.toNat t2) ((0 : Int), (0 : Int))).2) == (w64 (((List.getD t10 (Int.toNat (List.getD t51 (Int.toNat t53) (0 : Int))) ((0 : Int), (0 : Int))).2) + (1 : Int))))) then (some (.inr ((t1, (List.getD t51 (Int.toNat t53) (0 : Int)), t3, t4, t10, t11, t12, ()), ()))) else (some (.inl ((t1, t2, t3, t4, t10, t11, t12, t51, t52, (w64 (t53 + (1 : Int))), ()), ())))) | none => none))))) else (some (.inr ((t1, t2, t3, t4, t10, t11, t12, ()), ())))
abbrev impl_CheapestWay_O1 : Out := .one (.ex 0) impl_CheapestWay_J2
noncomputable def impl_CheapestWay_B1 : impl_CheapestWay_J1.P → Option (impl_CheapestWay_J1.P ⊕ impl_CheapestWay_O1.P)
  | ((t1, t2, t3, t4, t10, t11, t12, ()), ()) => bif (t2 != t3) then (guardB (inb t2 (List.length t11)) (match loopO impl_CheapestWay_B0 ((t1, t2, t3, t4, t10, t11, t12, (List.getD t11 (Int.toNat t2) ([] : (List Int))), (List.length (List.getD t11 (Int.toNat t2) ([] : (List Int))) : Int), (0 : Int), ()), ()) with | some ((t1_2, t2_2, t3_2, t4_2, t10_2, t11_2, t12_2, ()), ()) => guardB (decide ((List.length t12_2 + List.length [t2_2]) * 8 ≤ 70368744177664)) (some (.inl ((t1_2, t2_2, t3_2, t4_2, t10_2, t11_2, (t12_2 ++ [t2_2]), ()), ()))) | none => none)) else (some (.inr ((t12, ()), ())))
noncomputable def impl_CheapestWay : argP impl_CheapestWay_a → obP (extObs 0 impl_CheapestWay_o) → Option impl_CheapestWay_E.P
  | (t0, t1, t2, t3, ()), () => match impl_isWeighed (t0, t1, ()) () with | some ((r, ()), ()) => (bif (!r) then (some ((([] : (List Int)), false, ()), ())) else (match impl_Space_isPlace (t0, t2, ()) () with | some ((r2, ()), ()) => (bif (!r2) then (some ((([] : (List Int)), false, ()), ())) else (match impl_Space_isPlace (t0, t3, ()) () with | some ((r3, ()), ()) => (bif (!r3) then (some ((([] : (List Int)), false, ()), ())) else (match impl_Space_tolls (t0, t1, t3, ()) () with | some ((r4, ()), ()) => (match impl_Space_roads (t0, ()) () with | some ((r5, ()), ()) => guardB (inb t2 (List.length r4)) (bif (decide (((List.getD r4 (Int.toNat t2) ((0 : Int), (0 : Int))).1) < (0 : Int))) then (some ((([] : (List Int)), false, ()), ())) else (match loopO impl_CheapestWay_B1 ((t1, t2, t3, t0, r4, r5, [t2], ()), ()) with | some ((t12, ()), ()) => some ((t12, true, ()), ()) | none => none)) | none => none) | none => none)) | none => none)) | none => none)) | none => none
noncomputable def impl_CheapestWay_x : Cx := ⟨tab, impl_Space_tolls_e, fun _ _ => 0, fun _ => false, [(17, 0), (17, 1), (17, 2), (17, 3), (22, 0), (22, 1), (22, 2), (22, 3), (28, 0), (28, 1), (28, 2), (28, 3), (34, 0), (34, 1), (34, 2), (34, 3), (36, 0), (36, 1), (36, 2), (36, 3), (10, 0), (11, 0), (70, 0), (70, 1), (70, 2), (70, 3), (84, 0)], [(4, 0)]⟩
noncomputable def c39 : Code := bodyOf Try.f39
noncomputable def impl_CheapestWay_A : Ann := .seq .nil (.seq .nil (.seq (.draw [(0, .flo), (1, .flo), (2, .flo), (4, .flo), (3, .sole), (5, .sole), (6, .flo), (7, .flo)]) (.seq .nil (.seq .nil (.seq (.loop impl_CheapestWay_J1 impl_CheapestWay_O1 impl_CheapestWay_B1 (.seq .nil (.seq (.seq .nil (.loop impl_CheapestWay_J0 impl_CheapestWay_O0 impl_CheapestWay_B0 (.seq .nil (.seq .nil (.seq (.seq .nil (.seq (.draw [(0, .flo), (1, .flo), (2, .flo), (3, .flo), (4, .flo), (5, .flo), (6, .flo), (7, .flo), (8, .flo), (9, .flo), (10, .flo), (11, .flo), (12, .flo), (15, .flo), (16, .flo), (17, .flo), (18, .flo), (19, .flo), (20, .flo), (13, .sole), (14, .flo), (21, .flo), (22, .flo)]) .nil)) .nil))))) .nil))) .nil)))))
theorem impl_CheapestWay_r0 (p : impl_CheapestWay_J1.P) : run impl_CheapestWay_x (subc [1, 1, 1, 1, 1, 0, 0, 0] c39) (.seq .nil (.seq (.seq .nil (.loop impl_CheapestWay_J0 impl_CheapestWay_O0 impl_CheapestWay_B0 (.seq .nil (.seq .nil (.seq (.seq .nil (.seq (.draw [(0, .flo), (1, .flo), (2, .flo), (3, .flo), (4, .flo), (5, .flo), (6, .flo), (7, .flo), (8, .flo), (9, .flo), (10, .flo), (11, .flo), (12, .flo), (15, .flo), (16, .flo), (17, .flo), (18, .flo), (19, .flo), (20, .flo), (13, .sole), (14, .flo), (21, .flo), (22, .flo)]) .nil)) .nil))))) .nil)) (impl_CheapestWay_J1.S p) (leaf impl_CheapestWay_J1 impl_CheapestWay_O1) = impl_CheapestWay_B1 p := by kernel_rfl
theorem impl_CheapestWay_r1 (p : impl_CheapestWay_J0.P) : run impl_CheapestWay_x (subc [1, 1, 1, 1, 1, 0, 0, 0, 1, 0, 0, 1, 0, 0] c39) (.seq .nil (.seq .nil (.seq (.seq .nil (.seq (.draw [(0, .flo), (1, .flo), (2, .flo), (3, .flo), (4, .flo), (5, .flo), (6, .flo), (7, .flo), (8, .flo), (9, .flo), (10, .flo), (11, .flo), (12, .flo), (15, .flo), (16, .flo), (17, .flo), (18, .flo), (19, .flo), (20, .flo), (13, .sole), (14, .flo), (21, .flo), (22, .flo)]) .nil)) .nil))) (impl_CheapestWay_J0.S p) (leaf impl_CheapestWay_J0 impl_CheapestWay_O0) = impl_CheapestWay_B0 p := by kernel_rfl
noncomputable def impl_CheapestWay_D : Ve.Fn := ⟨39, impl_CheapestWay_a, impl_CheapestWay_o, impl_CheapestWay_E, impl_CheapestWay⟩
theorem impl_CheapestWay_w : Walk Try.prog impl_CheapestWay_x impl_CheapestWay_D Try.f39 c39 87 impl_CheapestWay_A :=
  ⟨⟨Try.func39, by kernel_rfl, by kernel_rfl, by kernel_rfl, by decide, by kernel_rfl, Nat.le_of_ble_eq_true (by kernel_rfl)⟩, by kernel_rfl, by kernel_rfl, by kernel_rfl, kcast (by kernel_rfl) (⟨impl_CheapestWay_r0, impl_CheapestWay_r1, trivial⟩ : (∀ p, run impl_CheapestWay_x (subc [1, 1, 1, 1, 1, 0, 0, 0] c39) (.seq .nil (.seq (.seq .nil (.loop impl_CheapestWay_J0 impl_CheapestWay_O0 impl_CheapestWay_B0 (.seq .nil (.seq .nil (.seq (.seq .nil (.seq (.draw [(0, .flo), (1, .flo), (2, .flo), (3, .flo), (4, .flo), (5, .flo), (6, .flo), (7, .flo), (8, .flo), (9, .flo), (10, .flo), (11, .flo), (12, .flo), (15, .flo), (16, .flo), (17, .flo), (18, .flo), (19, .flo), (20, .flo), (13, .sole), (14, .flo), (21, .flo), (22, .flo)]) .nil)) .nil))))) .nil)) (impl_CheapestWay_J1.S p) (leaf impl_CheapestWay_J1 impl_CheapestWay_O1) = impl_CheapestWay_B1 p) ∧ (∀ p, run impl_CheapestWay_x (subc [1, 1, 1, 1, 1, 0, 0, 0, 1, 0, 0, 1, 0, 0] c39) (.seq .nil (.seq .nil (.seq (.seq .nil (.seq (.draw [(0, .flo), (1, .flo), (2, .flo), (3, .flo), (4, .flo), (5, .flo), (6, .flo), (7, .flo), (8, .flo), (9, .flo), (10, .flo), (11, .flo), (12, .flo), (15, .flo), (16, .flo), (17, .flo), (18, .flo), (19, .flo), (20, .flo), (13, .sole), (14, .flo), (21, .flo), (22, .flo)]) .nil)) .nil))) (impl_CheapestWay_J0.S p) (leaf impl_CheapestWay_J0 impl_CheapestWay_O0) = impl_CheapestWay_B0 p) ∧ True), by kernel_rfl, fun x y => by kernel_rfl⟩
theorem impl_CheapestWay_s : impl_CheapestWay_D.Says Try.prog := impl_CheapestWay_w.says follows tabOk impl_Space_tolls_e_ok
noncomputable def impl_CheapestWay_e : Env := more impl_Space_tolls_e impl_CheapestWay_D
theorem impl_CheapestWay_e_ok : EnvOk Try.prog impl_CheapestWay_e := more_ok impl_Space_tolls_e_ok impl_CheapestWay_s
/-! loop.example/g01128/laws.eqIntS -/
abbrev laws_eqIntS_J0 : Tpl := ⟨[(0, .val (.list I)), (1, .val (.list I)), (5, .val I)], [], []⟩
abbrev laws_eqIntS_J1 : Tpl := ⟨[(4, .val .bool)], [], []⟩
abbrev laws_eqIntS_J2 : Tpl := ⟨[], [], []⟩
abbrev laws_eqIntS_E : Ve.End := ⟨[⟨4, .shr, .bool, none⟩], []⟩
abbrev laws_eqIntS_a : List ASh := [.val (.list I), .val (.list I)]
abbrev laws_eqIntS_o : List OSh := []
abbrev laws_eqIntS_O0 : Out := .or .ret laws_eqIntS_J1 (.one (.ex 0) laws_eqIntS_J2)
noncomputable def laws_eqIntS_B0 : laws_eqIntS_J0.P → Option (laws_eqIntS_J0.P ⊕ laws_eqIntS_O0.P)
  | ((a, b, i, ()), ()) => bif (decide (i < (List.length a : Int))) then (guardB (inb i (List.length a)) (guardB (inb i (List.length b)) (bif ((List.getD a (Int.toNat i) (0 : Int)) != (List.getD b (Int.toNat i) (0 : Int))) then (some (.inr (.inl ((false, ()), ())))) else (some (.inl ((a, b, (w64 (i + (1 : Int))), ()), ())))))) else (some (.inr (.inr ((), ()))))
noncomputable def laws_eqIntS : argP laws_eqIntS_a → obP (extObs 0 laws_eqIntS_o) → Option laws_eqIntS_E.P
  | (a, b, ()), () => bif ((List.length a : Int) != (List.length b : Int)) then (some ((false, ()), ())) else (match loopO laws_eqIntS_B0 ((a, b, (0 : Int), ()), ()) with | some (.inl ((t4, ()), ())) => some ((t4, ()), ()) | some (.inr ((), ())) => some ((true, ()), ()) | none => none)
noncomputable def laws_eqIntS_x : Cx := ⟨tab, impl_CheapestWay_e, fun _ _ => 0, fun _ => false, [], []⟩
noncomputable def c21 : Code := bodyOf Try.f21
noncomputable def laws_eqIntS_A : Ann := .seq .nil (.seq .nil (.seq (.seq .nil (.loop laws_eqIntS_J0 laws_eqIntS_O0 laws_eqIntS_B0 (.seq .nil (.seq (.seq (.draw [(0, .flo), (1, .flo), (2, .flo), (3, .flo), (4, .flo), (5, .flo), (6, .flo), (7, .flo), (8, .flo)]) .nil) .nil)))) .nil))
theorem laws_eqIntS_r0 (p : laws_eqIntS_J0.P) : run laws_eqIntS_x (subc [1, 1, 0, 1, 0, 0] c21) (.seq .nil (.seq (.seq (.draw [(0, .flo), (1, .flo), (2, .flo), (3, .flo), (4, .flo), (5, .flo), (6, .flo), (7, .flo), (8, .flo)]) .nil) .nil)) (laws_eqIntS_J0.S p) (leaf laws_eqIntS_J0 laws_eqIntS_O0) = laws_eqIntS_B0 p := by kernel_rfl
noncomputable def laws_eqIntS_D : Ve.Fn := ⟨21, laws_eqIntS_a, laws_eqIntS_o, laws_eqIntS_E, laws_eqIntS⟩
theorem laws_eqIntS_w : Walk Try.prog laws_eqIntS_x laws_eqIntS_D Try.f21 c21 26 laws_eqIntS_A :=
  ⟨⟨Try.func21, by kernel_rfl, by kernel_rfl, by kernel_rfl, by decide, by kernel_rfl, Nat.le_of_ble_eq_true (by kernel_rfl)⟩, by kernel_rfl, by kernel_rfl, by kernel_rfl, kcast (by kernel_rfl) (⟨laws_eqIntS_r0, trivial⟩ : (∀ p, run laws_eqIntS_x (subc [1, 1, 0, 1, 0, 0] c21) (.seq .nil (.seq (.seq (.draw [(0, .flo), (1, .flo), (2, .flo), (3, .flo), (4, .flo), (5, .flo), (6, .flo), (7, .flo), (8, .flo)]) .nil) .nil)) (laws_eqIntS_J0.S p) (leaf laws_eqIntS_J0 laws_eqIntS_O0) = laws_eqIntS_B0 p) ∧ True), by kernel_rfl, fun x y => by kernel_rfl⟩
theorem laws_eqIntS_s : laws_eqIntS_D.Says Try.prog := laws_eqIntS_w.says follows tabOk impl_CheapestWay_e_ok
noncomputable def laws_eqIntS_e : Env := more impl_CheapestWay_e laws_eqIntS_D
theorem laws_eqIntS_e_ok : EnvOk Try.prog laws_eqIntS_e := more_ok impl_CheapestWay_e_ok laws_eqIntS_s
/-! loop.example/g01128/laws.eqIntSS -/
abbrev laws_eqIntSS_J0 : Tpl := ⟨[(0, .val (.list (.list I))), (1, .val (.list (.list I))), (5, .val I)], [], []⟩
abbrev laws_eqIntSS_J1 : Tpl := ⟨[(4, .val .bool)], [], []⟩
abbrev laws_eqIntSS_J2 : Tpl := ⟨[], [], []⟩
abbrev laws_eqIntSS_E : Ve.End := ⟨[⟨4, .shr, .bool, none⟩], []⟩
abbrev laws_eqIntSS_a : List ASh := [.val (.list (.list I)), .val (.list (.list I))]
abbrev laws_eqIntSS_o : List OSh := []
abbrev laws_eqIntSS_O0 : Out := .or .ret laws_eqIntSS_J1 (.one (.ex 0) laws_eqIntSS_J2)
noncomputable def laws_eqIntSS_B0 : laws_eqIntSS_J0.P → Option (laws_eqIntSS_J0.P ⊕ laws_eqIntSS_O0.P)
  | ((a, b, i, ()), ()) => bif (decide (i < (List.length a : Int))) then (guardB (inb i (List.length a)) (guardB (inb i (List.length b)) (match laws_eqIntS ((List.getD a (Int.toNat i) ([] : (List Int))), (List.getD b (Int.toNat i) ([] : (List Int))), ()) () with | some ((r, ()), ()) => (bif (!r) then (some (.inr (.inl ((false, ()), ())))) else (some (.inl ((a, b, (w64 (i + (1 : Int))), ()), ())))) | none => none))) else (some (.inr (.inr ((), ()))))
noncomputable def laws_eqIntSS : argP laws_eqIntSS_a → obP (extObs 0 laws_eqIntSS_o) → Option laws_eqIntSS_E.P
  | (a, b, ()), () => bif ((List.length a : Int) != (List.length b : Int)) then (some ((false, ()), ())) else (match loopO laws_eqIntSS_B0 ((a, b, (0 : Int), ()), ()) with | some (.inl ((t4, ()), ())) => some ((t4, ()), ()) | some (.inr ((), ())) => some ((true, ()), ()) | none => none)
noncomputable def laws_eqIntSS_x : Cx := ⟨tab, laws_eqIntS_e, fun _ _ => 0, fun _ => false, [(25, 0), (25, 1), (25, 2), (25, 3)], []⟩
noncomputable def c26 : Code := bodyOf Try.f26
noncomputable def laws_eqIntSS_A : Ann := .seq .nil (.seq .nil (.seq (.seq .nil (.loop laws_eqIntSS_J0 laws_eqIntSS_O0 laws_eqIntSS_B0 (.seq .nil (.seq (.seq (.draw [(0, .flo), (1, .flo), (2, .flo), (3, .flo), (4, .flo), (5, .flo), (6, .flo), (7, .flo), (8, .sole), (9, .flo)]) .nil) .nil)))) .nil))
theorem laws_eqIntSS_r0 (p : laws_eqIntSS_J0.P) : run laws_eqIntSS_x (subc [1, 1, 0, 1, 0, 0] c26) (.seq .nil (.seq (.seq (.draw [(0, .flo), (1, .flo), (2, .flo), (3, .flo), (4, .flo), (5, .flo), (6, .flo), (7, .flo), (8, .sole), (9, .flo)]) .nil) .nil)) (laws_eqIntSS_J0.S p) (leaf laws_eqIntSS_J0 laws_eqIntSS_O0) = laws_eqIntSS_B0 p := by kernel_rfl
noncomputable def laws_eqIntSS_D : Ve.Fn := ⟨26, laws_eqIntSS_a, laws_eqIntSS_o, laws_eqIntSS_E, laws_eqIntSS⟩
theorem laws_eqIntSS_w : Walk Try.prog laws_eqIntSS_x laws_eqIntSS_D Try.f26 c26 27 laws_eqIntSS_A :=
  ⟨⟨Try.func26, by kernel_rfl, by kernel_rfl, by kernel_rfl, by decide, by kernel_rfl, Nat.le_of_ble_eq_true (by kernel_rfl)⟩, by kernel_rfl, by kernel_rfl, by kernel_rfl, kcast (by kernel_rfl) (⟨laws_eqIntSS_r0, trivial⟩ : (∀ p, run laws_eqIntSS_x (subc [1, 1, 0, 1, 0, 0] c26) (.seq .nil (.seq (.seq (.draw [(0, .flo), (1, .flo), (2, .flo), (3, .flo), (4, .flo), (5, .flo), (6, .flo), (7, .flo), (8, .sole), (9, .flo)]) .nil) .nil)) (laws_eqIntSS_J0.S p) (leaf laws_eqIntSS_J0 laws_eqIntSS_O0) = laws_eqIntSS_B0 p) ∧ True), by kernel_rfl, fun x y => by kernel_rfl⟩
theorem laws_eqIntSS_s : laws_eqIntSS_D.Says Try.prog := laws_eqIntSS_w.says follows tabOk laws_eqIntS_e_ok
noncomputable def laws_eqIntSS_e : Env := more laws_eqIntS_e laws_eqIntSS_D
theorem laws_eqIntSS_e_ok : EnvOk Try.prog laws_eqIntSS_e := more_ok laws_eqIntS_e_ok laws_eqIntSS_s
/-! loop.example/g01128/laws.eqIntA2 -/
abbrev laws_eqIntA2_J0 : Tpl := ⟨[(2, .cst (.prod I I)), (3, .cst (.prod I I)), (5, .val I)], [], []⟩
abbrev laws_eqIntA2_J1 : Tpl := ⟨[(4, .val .bool)], [], []⟩
abbrev laws_eqIntA2_J2 : Tpl := ⟨[], [], []⟩
abbrev laws_eqIntA2_E : Ve.End := ⟨[⟨4, .shr, .bool, none⟩], []⟩
abbrev laws_eqIntA2_a : List ASh := [.val (.prod I I), .val (.prod I I)]
abbrev laws_eqIntA2_o : List OSh := []
abbrev laws_eqIntA2_O0 : Out := .or .ret laws_eqIntA2_J1 (.one (.ex 0) laws_eqIntA2_J2)
noncomputable def laws_eqIntA2_B0 : laws_eqIntA2_J0.P → Option (laws_eqIntA2_J0.P ⊕ laws_eqIntA2_O0.P)
  | ((a, b, i, ()), ()) => bif (decide (i < (2 : Int))) then (guardB (decide (0 ≤ i) && decide (i < 2)) (guardB (decide (0 ≤ i) && decide (i < 2)) (bif ((bif Nat.beq (Int.toNat i) 0 then a.1 else a.2) != (bif Nat.beq (Int.toNat i) 0 then b.1 else b.2)) then (some (.inr (.inl ((false, ()), ())))) else (some (.inl ((a, b, (w64 (i + (1 : Int))), ()), ())))))) else (some (.inr (.inr ((), ()))))
noncomputable def laws_eqIntA2 : argP laws_eqIntA2_a → obP (extObs 0 laws_eqIntA2_o) → Option laws_eqIntA2_E.P
  | (a, b, ()), () => match loopO laws_eqIntA2_B0 ((a, b, (0 : Int), ()), ()) with | some (.inl ((t4, ()), ())) => some ((t4, ()), ()) | some (.inr ((), ())) => some ((true, ()), ()) | none => none
noncomputable def laws_eqIntA2_x : Cx := ⟨tab, laws_eqIntSS_e, fun _ _ => 0, fun _ => false, [], [(2, 0), (3, 0)]⟩
noncomputable def c124 : Code := bodyOf Try.f124
noncomputable def laws_eqIntA2_A : Ann := .seq .nil (.seq (.seq .nil (.loop laws_eqIntA2_J0 laws_eqIntA2_O0 laws_eqIntA2_B0 (.seq .nil (.seq (.seq (.draw [(0, .flo), (1, .flo), (2, .flo), (3, .flo), (4, .flo), (5, .flo), (6, .flo)]) .nil) .nil)))) .nil)
theorem laws_eqIntA2_r0 (p : laws_eqIntA2_J0.P) : run laws_eqIntA2_x (subc [1, 0, 1, 0, 0] c124) (.seq .nil (.seq (.seq (.draw [(0, .flo), (1, .flo), (2, .flo), (3, .flo), (4, .flo), (5, .flo), (6, .flo)]) .nil) .nil)) (laws_eqIntA2_J0.S p) (leaf laws_eqIntA2_J0 laws_eqIntA2_O0) = laws_eqIntA2_B0 p := by kernel_rfl
noncomputable def laws_eqIntA2_D : Ve.Fn := ⟨124, laws_eqIntA2_a, laws_eqIntA2_o, laws_eqIntA2_E, laws_eqIntA2⟩
theorem laws_eqIntA2_w : Walk Try.prog laws_eqIntA2_x laws_eqIntA2_D Try.f124 c124 17 laws_eqIntA2_A :=
  ⟨⟨Try.func124, by kernel_rfl, by kernel_rfl, by kernel_rfl, by decide, by kernel_rfl, Nat.le_of_ble_eq_true (by kernel_rfl)⟩, by kernel_rfl, by kernel_rfl, by kernel_rfl, kcast (by kernel_rfl) (⟨laws_eqIntA2_r0, trivial⟩ : (∀ p, run laws_eqIntA2_x (subc [1, 0, 1, 0, 0] c124) (.seq .nil (.seq (.seq (.draw [(0, .flo), (1, .flo), (2, .flo), (3, .flo), (4, .flo), (5, .flo), (6, .flo)]) .nil) .nil)) (laws_eqIntA2_J0.S p) (leaf laws_eqIntA2_J0 laws_eqIntA2_O0) = laws_eqIntA2_B0 p) ∧ True), by kernel_rfl, fun x y => by kernel_rfl⟩
theorem laws_eqIntA2_s : laws_eqIntA2_D.Says Try.prog := laws_eqIntA2_w.says follows tabOk laws_eqIntSS_e_ok
noncomputable def laws_eqIntA2_e : Env := more laws_eqIntSS_e laws_eqIntA2_D
theorem laws_eqIntA2_e_ok : EnvOk Try.prog laws_eqIntA2_e := more_ok laws_eqIntSS_e_ok laws_eqIntA2_s
/-! loop.example/g01128/laws.eqIntA2S -/
abbrev laws_eqIntA2S_J0 : Tpl := ⟨[(0, .val (.list (.prod I I))), (1, .val (.list (.prod I I))), (5, .val I)], [], []⟩
abbrev laws_eqIntA2S_J1 : Tpl := ⟨[(4, .val .bool)], [], []⟩
abbrev laws_eqIntA2S_J2 : Tpl := ⟨[], [], []⟩
abbrev laws_eqIntA2S_E : Ve.End := ⟨[⟨4, .shr, .bool, none⟩], []⟩
abbrev laws_eqIntA2S_a : List ASh := [.val (.list (.prod I I)), .val (.list (.prod I I))]
abbrev laws_eqIntA2S_o : List OSh := []
abbrev laws_eqIntA2S_O0 : Out := .or .ret laws_eqIntA2S_J1 (.one (.ex 0) laws_eqIntA2S_J2)
noncomputable def laws_eqIntA2S_B0 : laws_eqIntA2S_J0.P → Option (laws_eqIntA2S_J0.P ⊕ laws_eqIntA2S_O0.P)
  | ((a, b, i, ()), ()) => bif (decide (i < (List.length a : Int))) then (guardB (inb i (List.length a)) (guardB (inb i (List.length b)) (match laws_eqIntA2 ((List.getD a (Int.toNat i) ((0 : Int), (0 : Int))), (List.getD b (Int.toNat i) ((0 : Int), (0 : Int))), ()) () with | some ((r, ()), ()) => (bif (!r) then (some (.inr (.inl ((false, ()), ())))) else (some (.inl ((a, b, (w64 (i + (1 : Int))), ()), ())))) | none => none))) else (some (.inr (.inr ((), ()))))
noncomputable def laws_eqIntA2S : argP laws_eqIntA2S_a → obP (extObs 0 laws_eqIntA2S_o) → Option laws_eqIntA2S_E.P
  | (a, b, ()), () => bif ((List.length a : Int) != (List.length b : Int)) then (some ((false, ()), ())) else (match loopO laws_eqIntA2S_B0 ((a, b, (0 : Int), ()), ()) with | some (.inl ((t4, ()), ())) => some ((t4, ()), ()) | some (.inr ((), ())) => some ((true, ()), ()) | none => none)
noncomputable def laws_eqIntA2S_x : Cx := ⟨tab, laws_eqIntA2_e, fun _ _ => 0, fun _ => false, [(25, 0), (25, 1), (25, 2), (25, 3)], []⟩
noncomputable def c58 : Code := bodyOf Try.f58
noncomputable def laws_eqIntA2S_A : Ann := .seq .nil (.seq .nil (.seq (.seq .nil (.loop laws_eqIntA2S_J0 laws_eqIntA2S_O0 laws_eqIntA2S_B0 (.seq .nil (.seq (.seq (.draw [(0, .flo), (1, .flo), (2, .flo), (3, .flo), (4, .flo), (5, .flo), (6, .flo), (7, .flo), (8, .sole), (9, .flo)]) .nil) .nil)))) .nil))
theorem laws_eqIntA2S_r0 (p : laws_eqIntA2S_J0.P) : run laws_eqIntA2S_x (subc [1, 1, 0, 1, 0, 0] c58) (.seq .nil (.seq (.seq (.draw [(0, .flo), (1, .flo), (2, .flo), (3, .flo), (4, .flo), (5, .flo), (6, .flo), (7, .flo), (8, .sole), (9, .flo)]) .nil) .nil)) (laws_eqIntA2S_J0.S p) (leaf laws_eqIntA2S_J0 laws_eqIntA2S_O0) = laws_eqIntA2S_B0 p := by kernel_rfl
noncomputable def laws_eqIntA2S_D : Ve.Fn := ⟨58, laws_eqIntA2S_a, laws_eqIntA2S_o, laws_eqIntA2S_E, laws_eqIntA2S⟩
theorem laws_eqIntA2S_w : Walk Try.prog laws_eqIntA2S_x laws_eqIntA2S_D Try.f58 c58 27 laws_eqIntA2S_A :=
  ⟨⟨Try.func58, by kernel_rfl, by kernel_rfl, by kernel_rfl, by decide, by kernel_rfl, Nat.le_of_ble_eq_true (by kernel_rfl)⟩, by kernel_rfl, by kernel_rfl, by kernel_rfl, kcast (by kernel_rfl) (⟨laws_eqIntA2S_r0, trivial⟩ : (∀ p, run laws_eqIntA2S_x (subc [1, 1, 0, 1, 0, 0] c58) (.seq .nil (.seq (.seq (.draw [(0, .flo), (1, .flo), (2, .flo), (3, .flo), (4, .flo), (5, .flo), (6, .flo), (7, .flo), (8, .sole), (9, .flo)]) .nil) .nil)) (laws_eqIntA2S_J0.S p) (leaf laws_eqIntA2S_J0 laws_eqIntA2S_O0) = laws_eqIntA2S_B0 p) ∧ True), by kernel_rfl, fun x y => by kernel_rfl⟩
theorem laws_eqIntA2S_s : laws_eqIntA2S_D.Says Try.prog := laws_eqIntA2S_w.says follows tabOk laws_eqIntA2_e_ok
noncomputable def laws_eqIntA2S_e : Env := more laws_eqIntA2_e laws_eqIntA2S_D
theorem laws_eqIntA2S_e_ok : EnvOk Try.prog laws_eqIntA2S_e := more_ok laws_eqIntA2_e_ok laws_eqIntA2S_s
/-! loop.example/g01128/laws.eqSpace -/
abbrev laws_eqSpace_E : Ve.End := ⟨[⟨4, .shr, .bool, none⟩], []⟩
abbrev laws_eqSpace_a : List ASh := [.val (.prod (.list (.list I)) (.list (.prod I I))), .val (.prod (.list (.list I)) (.list (.prod I I)))]
abbrev laws_eqSpace_o : List OSh := []
noncomputable def laws_eqSpace : argP laws_eqSpace_a → obP (extObs 0 laws_eqSpace_o) → Option laws_eqSpace_E.P
  | (a, b, ()), () => match laws_eqIntSS (a.1, b.1, ()) () with | some ((r, ()), ()) => (bif (!r) then (some ((false, ()), ())) else (match laws_eqIntA2S (a.2, b.2, ()) () with | some ((r2, ()), ()) => (bif (!r2) then (some ((false, ()), ())) else (some ((true, ()), ()))) | none => none)) | none => none
noncomputable def laws_eqSpace_x : Cx := ⟨tab, laws_eqIntA2S_e, fun _ _ => 0, fun _ => false, [(9, 0), (9, 1), (9, 2), (9, 3), (15, 0), (15, 1), (15, 2), (15, 3)], [(2, 0), (3, 0)]⟩
noncomputable def c20 : Code := bodyOf Try.f20
noncomputable def laws_eqSpace_A : Ann := .nil
noncomputable def laws_eqSpace_D : Ve.Fn := ⟨20, laws_eqSpace_a, laws_eqSpace_o, laws_eqSpace_E, laws_eqSpace⟩
theorem laws_eqSpace_w : Walk Try.prog laws_eqSpace_x laws_eqSpace_D Try.f20 c20 17 laws_eqSpace_A :=
  ⟨⟨Try.func20, by kernel_rfl, by kernel_rfl, by kernel_rfl, by decide, by kernel_rfl, Nat.le_of_ble_eq_true (by kernel_rfl)⟩, by kernel_rfl, by kernel_rfl, by kernel_rfl, kcast (by kernel_rfl) trivial, by kernel_rfl, fun x y => by kernel_rfl⟩
theorem laws_eqSpace_s : laws_eqSpace_D.Says Try.prog := laws_eqSpace_w.says follows tabOk laws_eqIntA2S_e_ok
noncomputable def laws_eqSpace_e : Env := more laws_eqIntA2S_e laws_eqSpace_D
theorem laws_eqSpace_e_ok : EnvOk Try.prog laws_eqSpace_e := more_ok laws_eqIntA2S_e_ok laws_eqSpace_s
/-! loop.example/g01128/laws.markIntS -/
abbrev laws_markIntS_e0v_ls_J0 : Tpl := ⟨[(0, .same (1000000, 0) []), (1, .val I), (5, .val I)], [((1000000, 0), .vec .shr I)], []⟩
abbrev laws_markIntS_e0v_ls_J1 : Tpl := ⟨[(1, .val I)], [((1000000, 0), .vec .shr I)], []⟩
abbrev laws_markIntS_e0v_ls_E : Ve.End := ⟨[⟨4, .shr, I, none⟩], [.vec .shr I]⟩
abbrev laws_markIntS_e0v_ls_a : List ASh := [.ext 0, .val I]
abbrev laws_markIntS_e0v_ls_o : List OSh := [.vec .shr I]
abbrev laws_markIntS_e0v_ls_O0 : Out := .one (.ex 0) laws_markIntS_e0v_ls_J1
noncomputable def laws_markIntS_e0v_ls_B0 : laws_markIntS_e0v_ls_J0.P → Option (laws_markIntS_e0v_ls_J0.P ⊕ laws_markIntS_e0v_ls_O0.P)
  | ((k, i, ()), (o0, ())) => bif (decide (i < (List.length o0 : Int))) then (guardB (inb i (List.length o0)) (some (.inl (((w64 (k + (1 : Int))), (w64 (i + (1 : Int))), ()), ((List.set o0 (Int.toNat i) k), ()))))) else (some (.inr ((k, ()), (o0, ()))))
noncomputable def laws_markIntS_e0v_ls : argP laws_markIntS_e0v_ls_a → obP (extObs 0 laws_markIntS_e0v_ls_o) → Option laws_markIntS_e0v_ls_E.P
  | (k, ()), (o0, ()) => match loopO laws_markIntS_e0v_ls_B0 ((k, (0 : Int), ()), (o0, ())) with | some ((k2, ()), (o0_2, ())) => some ((k2, ()), (o0_2, ())) | none => none
noncomputable def laws_markIntS_e0v_ls_x : Cx := ⟨tab, laws_eqSpace_e, fun _ _ => 0, fun _ => false, [], []⟩
noncomputable def c30 : Code := bodyOf Try.f30
noncomputable def laws_markIntS_e0v_ls_A : Ann := .seq .nil (.seq (.seq .nil (.loop laws_markIntS_e0v_ls_J0 laws_markIntS_e0v_ls_O0 laws_markIntS_e0v_ls_B0 .nil)) .nil)
theorem laws_markIntS_e0v_ls_r0 (p : laws_markIntS_e0v_ls_J0.P) : run laws_markIntS_e0v_ls_x (subc [1, 0, 1, 0, 0] c30) .nil (laws_markIntS_e0v_ls_J0.S p) (leaf laws_markIntS_e0v_ls_J0 laws_markIntS_e0v_ls_O0) = laws_markIntS_e0v_ls_B0 p := by kernel_rfl
noncomputable def laws_markIntS_e0v_ls_D : Ve.Fn := ⟨30, laws_markIntS_e0v_ls_a, laws_markIntS_e0v_ls_o, laws_markIntS_e0v_ls_E, laws_markIntS_e0v_ls⟩
theorem laws_markIntS_e0v_ls_w : Walk Try.prog laws_markIntS_e0v_ls_x laws_markIntS_e0v_ls_D Try.f30 c30 19 laws_markIntS_e0v_ls_A :=
  ⟨⟨Try.func30, by kernel_rfl, by kernel_rfl, by kernel_rfl, by decide, by kernel_rfl, Nat.le_of_ble_eq_true (by kernel_rfl)⟩, by kernel_rfl, by kernel_rfl, by kernel_rfl, kcast (by kernel_rfl) (⟨laws_markIntS_e0v_ls_r0, trivial⟩ : (∀ p, run laws_markIntS_e0v_ls_x (subc [1, 0, 1, 0, 0] c30) .nil (laws_markIntS_e0v_ls_J0.S p) (leaf laws_markIntS_e0v_ls_J0 laws_markIntS_e0v_ls_O0) = laws_markIntS_e0v_ls_B0 p) ∧ True), by kernel_rfl, fun x y => by kernel_rfl⟩
theorem laws_markIntS_e0v_ls_s : laws_markIntS_e0v_ls_D.Says Try.prog := laws_markIntS_e0v_ls_w.says follows tabOk laws_eqSpace_e_ok
noncomputable def laws_markIntS_e0v_ls_e : Env := more laws_eqSpace_e laws_markIntS_e0v_ls_D
theorem laws_markIntS_e0v_ls_e_ok : EnvOk Try.prog laws_markIntS_e0v_ls_e := more_ok laws_eqSpace_e_ok laws_markIntS_e0v_ls_s
/-! loop.example/g01128/laws.markIntSS -/
abbrev laws_markIntSS_e0v_l1_J0 : Tpl := ⟨[(0, .same (1000000, 0) []), (1, .val I), (5, .val I)], [((1000000, 0), .vec (.own .shr) (.list I))], []⟩
abbrev laws_markIntSS_e0v_l1_J1 : Tpl := ⟨[(1, .val I)], [((1000000, 0), .vec (.own .shr) (.list I))], []⟩
abbrev laws_markIntSS_e0v_l1_E : Ve.End := ⟨[⟨4, .shr, I, none⟩], [.vec (.own .shr) (.list I)]⟩
abbrev laws_markIntSS_e0v_l1_a : List ASh := [.ext 0, .val I]
abbrev laws_markIntSS_e0v_l1_o : List OSh := [.vec (.own .shr) (.list I)]
abbrev laws_markIntSS_e0v_l1_O0 : Out := .one (.ex 0) laws_markIntSS_e0v_l1_J1
noncomputable def laws_markIntSS_e0v_l1_B0 : laws_markIntSS_e0v_l1_J0.P → Option (laws_markIntSS_e0v_l1_J0.P ⊕ laws_markIntSS_e0v_l1_O0.P)
  | ((k, i, ()), (o0, ())) => bif (decide (i < (List.length o0 : Int))) then (guardB (inb i (List.length o0)) (match laws_markIntS_e0v_ls (k, ()) ((List.getD o0 (Int.toNat i) ([] : (List Int))), ()) with | some ((r, ()), (o, ())) => some (.inl ((r, (w64 (i + (1 : Int))), ()), ((List.set o0 (Int.toNat i) o), ()))) | none => none)) else (some (.inr ((k, ()), (o0, ()))))
noncomputable def laws_markIntSS_e0v_l1 : argP laws_markIntSS_e0v_l1_a → obP (extObs 0 laws_markIntSS_e0v_l1_o) → Option laws_markIntSS_e0v_l1_E.P
  | (k, ()), (o0, ()) => match loopO laws_markIntSS_e0v_l1_B0 ((k, (0 : Int), ()), (o0, ())) with | some ((k2, ()), (o0_2, ())) => some ((k2, ()), (o0_2, ())) | none => none
noncomputable def laws_markIntSS_e0v_l1_x : Cx := ⟨tab, laws_markIntS_e0v_ls_e, fun f n => bif Nat.beq f 30 && Nat.beq n 0 then 1 else 0, fun _ => false, [(17, 0), (17, 1), (17, 2), (17, 3)], []⟩
noncomputable def c36 : Code := bodyOf Try.f36
noncomputable def laws_markIntSS_e0v_l1_A : Ann := .seq .nil (.seq (.seq .nil (.loop laws_markIntSS_e0v_l1_J0 laws_markIntSS_e0v_l1_O0 laws_markIntSS_e0v_l1_B0 .nil)) .nil)
theorem laws_markIntSS_e0v_l1_r0 (p : laws_markIntSS_e0v_l1_J0.P) : run laws_markIntSS_e0v_l1_x (subc [1, 0, 1, 0, 0] c36) .nil (laws_markIntSS_e0v_l1_J0.S p) (leaf laws_markIntSS_e0v_l1_J0 laws_markIntSS_e0v_l1_O0) = laws_markIntSS_e0v_l1_B0 p := by kernel_rfl
noncomputable def laws_markIntSS_e0v_l1_D : Ve.Fn := ⟨36, laws_markIntSS_e0v_l1_a, laws_markIntSS_e0v_l1_o, laws_markIntSS_e0v_l1_E, laws_markIntSS_e0v_l1⟩
theorem laws_markIntSS_e0v_l1_w : Walk Try.prog laws_markIntSS_e0v_l1_x laws_markIntSS_e0v_l1_D Try.f36 c36 19 laws_markIntSS_e0v_l1_A :=
  ⟨⟨Try.func36, by kernel_rfl, by kernel_rfl, by kernel_rfl, by decide, by kernel_rfl, Nat.le_of_ble_eq_true (by kernel_rfl)⟩, by kernel_rfl, by kernel_rfl, by kernel_rfl, kcast (by kernel_rfl) (⟨laws_markIntSS_e0v_l1_r0, trivial⟩ : (∀ p, run laws_markIntSS_e0v_l1_x (subc [1, 0, 1, 0, 0] c36) .nil (laws_markIntSS_e0v_l1_J0.S p) (leaf laws_markIntSS_e0v_l1_J0 laws_markIntSS_e0v_l1_O0) = laws_markIntSS_e0v_l1_B0 p) ∧ True), by kernel_rfl, fun x y => by kernel_rfl⟩
theorem laws_markIntSS_e0v_l1_s : laws_markIntSS_e0v_l1_D.Says Try.prog := laws_markIntSS_e0v_l1_w.says follows tabOk laws_markIntS_e0v_ls_e_ok
noncomputable def laws_markIntSS_e0v_l1_e : Env := more laws_markIntS_e0v_ls_e laws_markIntSS_e0v_l1_D
theorem laws_markIntSS_e0v_l1_e_ok : EnvOk Try.prog laws_markIntSS_e0v_l1_e := more_ok laws_markIntS_e0v_ls_e_ok laws_markIntSS_e0v_l1_s
/-! loop.example/g01128/laws.markIntA2S -/
abbrev laws_markIntA2S_e0v_ls_J0 : Tpl := ⟨[(0, .same (1000000, 0) []), (1, .val I), (5, .val I), (6, .val I)], [((1000000, 0), .vec .shr (.prod I I))], []⟩
abbrev laws_markIntA2S_e0v_ls_J1 : Tpl := ⟨[(0, .same (1000000, 0) []), (1, .val I), (5, .val I)], [((1000000, 0), .vec .shr (.prod I I))], []⟩
abbrev laws_markIntA2S_e0v_ls_J2 : Tpl := ⟨[(1, .val I)], [((1000000, 0), .vec .shr (.prod I I))], []⟩
abbrev laws_markIntA2S_e0v_ls_E : Ve.End := ⟨[⟨4, .shr, I, none⟩], [.vec .shr (.prod I I)]⟩
abbrev laws_markIntA2S_e0v_ls_a : List ASh := [.ext 0, .val I]
abbrev laws_markIntA2S_e0v_ls_o : List OSh := [.vec .shr (.prod I I)]
abbrev laws_markIntA2S_e0v_ls_O0 : Out := .one (.ex 2) laws_markIntA2S_e0v_ls_J1
noncomputable def laws_markIntA2S_e0v_ls_B0 : laws_markIntA2S_e0v_ls_J0.P → Option (laws_markIntA2S_e0v_ls_J0.P ⊕ laws_markIntA2S_e0v_ls_O0.P)
  | ((k, i, j, ()), (o0, ())) => bif (decide (j < (2 : Int))) then (guardB (inb i (List.length o0)) (guardB (decide (0 ≤ j) && decide (j < 2)) (some (.inl (((w64 (k + (1 : Int))), i, (w64 (j + (1 : Int))), ()), ((List.set o0 (Int.toNat i) (bif Nat.beq (Int.toNat j) 0 then (k, (List.getD o0 (Int.toNat i) ((0 : Int), (0 : Int))).2) else ((List.getD o0 (Int.toNat i) ((0 : Int), (0 : Int))).1, k))), ())))))) else (some (.inr ((k, i, ()), (o0, ()))))
abbrev laws_markIntA2S_e0v_ls_O1 : Out := .one (.ex 0) laws_markIntA2S_e0v_ls_J2
noncomputable def laws_markIntA2S_e0v_ls_B1 : laws_markIntA2S_e0v_ls_J1.P → Option (laws_markIntA2S_e0v_ls_J1.P ⊕ laws_markIntA2S_e0v_ls_O1.P)
  | ((k, i, ()), (o0, ())) => bif (decide (i < (List.length o0 : Int))) then (match loopO laws_markIntA2S_e0v_ls_B0 ((k, i, (0 : Int), ()), (o0, ())) with | some ((k2, i2, ()), (o0_2, ())) => some (.inl ((k2, (w64 (i2 + (1 : Int))), ()), (o0_2, ()))) | none => none) else (some (.inr ((k, ()), (o0, ()))))
noncomputable def laws_markIntA2S_e0v_ls : argP laws_markIntA2S_e0v_ls_a → obP (extObs 0 laws_markIntA2S_e0v_ls_o) → Option laws_markIntA2S_e0v_ls_E.P
  | (k, ()), (o0, ()) => match loopO laws_markIntA2S_e0v_ls_B1 ((k, (0 : Int), ()), (o0, ())) with | some ((k2, ()), (o0_2, ())) => some ((k2, ()), (o0_2, ())) | none => none
noncomputable def laws_markIntA2S_e0v_ls_x : Cx := ⟨tab, laws_markIntSS_e0v_l1_e, fun _ _ => 0, fun _ => false, [], []⟩
noncomputable def c76 : Code := bodyOf Try.f76
noncomputable def laws_markIntA2S_e0v_ls_A : Ann := .seq .nil (.seq (.seq .nil (.loop laws_markIntA2S_e0v_ls_J1 laws_markIntA2S_e0v_ls_O1 laws_markIntA2S_e0v_ls_B1 (.seq .nil (.seq (.seq .nil (.loop laws_markIntA2S_e0v_ls_J0 laws_markIntA2S_e0v_ls_O0 laws_markIntA2S_e0v_ls_B0 .nil)) .nil)))) .nil)
theorem laws_markIntA2S_e0v_ls_r0 (p : laws_markIntA2S_e0v_ls_J1.P) : run laws_markIntA2S_e0v_ls_x (subc [1, 0, 1, 0, 0] c76) (.seq .nil (.seq (.seq .nil (.loop laws_markIntA2S_e0v_ls_J0 laws_markIntA2S_e0v_ls_O0 laws_markIntA2S_e0v_ls_B0 .nil)) .nil)) (laws_markIntA2S_e0v_ls_J1.S p) (leaf laws_markIntA2S_e0v_ls_J1 laws_markIntA2S_e0v_ls_O1) = laws_markIntA2S_e0v_ls_B1 p := by kernel_rfl
theorem laws_markIntA2S_e0v_ls_r1 (p : laws_markIntA2S_e0v_ls_J0.P) : run laws_markIntA2S_e0v_ls_x (subc [1, 0, 1, 0, 0, 1, 0, 0, 1, 0, 0] c76) .nil (laws_markIntA2S_e0v_ls_J0.S p) (leaf laws_markIntA2S_e0v_ls_J0 laws_markIntA2S_e0v_ls_O0) = laws_markIntA2S_e0v_ls_B0 p := by kernel_rfl
noncomputable def laws_markIntA2S_e0v_ls_D : Ve.Fn := ⟨76, laws_markIntA2S_e0v_ls_a, laws_markIntA2S_e0v_ls_o, laws_markIntA2S_e0v_ls_E, laws_markIntA2S_e0v_ls⟩
theorem laws_markIntA2S_e0v_ls_w : Walk Try.prog laws_markIntA2S_e0v_ls_x laws_markIntA2S_e0v_ls_D Try.f76 c76 26 laws_markIntA2S_e0v_ls_A :=
  ⟨⟨Try.func76, by kernel_rfl, by kernel_rfl, by kernel_rfl, by decide, by kernel_rfl, Nat.le_of_ble_eq_true (by kernel_rfl)⟩, by kernel_rfl, by kernel_rfl, by kernel_rfl, kcast (by kernel_rfl) (⟨laws_markIntA2S_e0v_ls_r0, laws_markIntA2S_e0v_ls_r1, trivial⟩ : (∀ p, run laws_markIntA2S_e0v_ls_x (subc [1, 0, 1, 0, 0] c76) (.seq .nil (.seq (.seq .nil (.loop laws_markIntA2S_e0v_ls_J0 laws_markIntA2S_e0v_ls_O0 laws_markIntA2S_e0v_ls_B0 .nil)) .nil)) (laws_markIntA2S_e0v_ls_J1.S p) (leaf laws_markIntA2S_e0v_ls_J1 laws_markIntA2S_e0v_ls_O1) = laws_markIntA2S_e0v_ls_B1 p) ∧ (∀ p, run laws_markIntA2S_e0v_ls_x (subc [1, 0, 1, 0, 0, 1, 0, 0, 1, 0, 0] c76) .nil (laws_markIntA2S_e0v_ls_J0.S p) (leaf laws_markIntA2S_e0v_ls_J0 laws_markIntA2S_e0v_ls_O0) = laws_markIntA2S_e0v_ls_B0 p) ∧ True), by kernel_rfl, fun x y => by kernel_rfl⟩
theorem laws_markIntA2S_e0v_ls_s : laws_markIntA2S_e0v_ls_D.Says Try.prog := laws_markIntA2S_e0v_ls_w.says follows tabOk laws_markIntSS_e0v_l1_e_ok
noncomputable def laws_markIntA2S_e0v_ls_e : Env := more laws_markIntSS_e0v_l1_e laws_markIntA2S_e0v_ls_D
theorem laws_markIntA2S_e0v_ls_e_ok : EnvOk Try.prog laws_markIntA2S_e0v_ls_e := more_ok laws_markIntSS_e0v_l1_e_ok laws_markIntA2S_e0v_ls_s
/-! loop.example/g01128/laws.markSpace -/
abbrev laws_markSpace_op21v_E : Ve.End := ⟨[⟨4, .shr, I, none⟩], []⟩
abbrev laws_markSpace_op21v_a : List ASh := [.own (.prod (.own (.own .shr)) (.own .shr)) (.prod (.list (.list I)) (.list (.prod I I))), .val I]
abbrev laws_markSpace_op21v_o : List OSh := []
noncomputable def laws_markSpace_op21v : argP laws_markSpace_op21v_a → obP (extObs 0 laws_markSpace_op21v_o) → Option laws_markSpace_op21v_E.P
  | (a, k, ()), () => match laws_markIntSS_e0v_l1 (k, ()) (a.1, ()) with | some ((r, ()), (o, ())) => (match laws_markIntA2S_e0v_ls (r, ()) (a.2, ()) with | some ((r2, ()), (o2, ())) => some ((r2, ()), ()) | none => none) | none => none
noncomputable def laws_markSpace_op21v_x : Cx := ⟨tab, laws_markIntA2S_e0v_ls_e, fun f n => bif Nat.beq f 36 && Nat.beq n 0 then 1 else bif Nat.beq f 76 && Nat.beq n 0 then 1 else 0, fun _ => false, [(8, 0), (8, 1), (8, 2), (8, 3), (12, 0), (12, 1), (12, 2), (12, 3)], []⟩
noncomputable def c29 : Code := bodyOf Try.f29
noncomputable def laws_markSpace_op21v_A : Ann := .nil
noncomputable def laws_markSpace_op21v_D : Ve.Fn := ⟨29, laws_markSpace_op21v_a, laws_markSpace_op21v_o, laws_markSpace_op21v_E, laws_markSpace_op21v⟩
theorem laws_markSpace_op21v_w : Walk Try.prog laws_markSpace_op21v_x laws_markSpace_op21v_D Try.f29 c29 14 laws_markSpace_op21v_A :=
  ⟨⟨Try.func29, by kernel_rfl, by kernel_rfl, by kernel_rfl, by decide, by kernel_rfl, Nat.le_of_ble_eq_true (by kernel_rfl)⟩, by kernel_rfl, by kernel_rfl, by kernel_rfl, kcast (by kernel_rfl) trivial, by kernel_rfl, fun x y => by kernel_rfl⟩
theorem laws_markSpace_op21v_s : laws_markSpace_op21v_D.Says Try.prog := laws_markSpace_op21v_w.says follows tabOk laws_markIntA2S_e0v_ls_e_ok
noncomputable def laws_markSpace_op21v_e : Env := more laws_markIntA2S_e0v_ls_e laws_markSpace_op21v_D
theorem laws_markSpace_op21v_e_ok : EnvOk Try.prog laws_markSpace_op21v_e := more_ok laws_markIntA2S_e0v_ls_e_ok laws_markSpace_op21v_s
/-! loop.example/g01128/laws.heldIntS -/
abbrev laws_heldIntS_J0 : Tpl := ⟨[(0, .val (.list I)), (1, .val I), (5, .val I)], [], []⟩
abbrev laws_heldIntS_J1 : Tpl := ⟨[(4, .val I)], [], []⟩
abbrev laws_heldIntS_J2 : Tpl := ⟨[(1, .val I)], [], []⟩
abbrev laws_heldIntS_E : Ve.End := ⟨[⟨4, .shr, I, none⟩], []⟩
abbrev laws_heldIntS_a : List ASh := [.val (.list I), .val I]
abbrev laws_heldIntS_o : List OSh := []
abbrev laws_heldIntS_O0 : Out := .or .ret laws_heldIntS_J1 (.one (.ex 0) laws_heldIntS_J2)
noncomputable def laws_heldIntS_B0 : laws_heldIntS_J0.P → Option (laws_heldIntS_J0.P ⊕ laws_heldIntS_O0.P)
  | ((a, k, i, ()), ()) => bif (decide (i < (List.length a : Int))) then (guardB (inb i (List.length a)) (bif ((List.getD a (Int.toNat i) (0 : Int)) != k) then (some (.inr (.inl (((-1 : Int), ()), ())))) else (some (.inl ((a, (w64 (k + (1 : Int))), (w64 (i + (1 : Int))), ()), ()))))) else (some (.inr (.inr ((k, ()), ()))))
noncomputable def laws_heldIntS : argP laws_heldIntS_a → obP (extObs 0 laws_heldIntS_o) → Option laws_heldIntS_E.P
  | (a, k, ()), () => match loopO laws_heldIntS_B0 ((a, k, (0 : Int), ()), ()) with | some (.inl ((t4, ()), ())) => some ((t4, ()), ()) | some (.inr ((k2, ()), ())) => some ((k2, ()), ()) | none => none
noncomputable def laws_heldIntS_x : Cx := ⟨tab, laws_markSpace_op21v_e, fun _ _ => 0, fun _ => false, [], []⟩
noncomputable def c31 : Code := bodyOf Try.f31
noncomputable def laws_heldIntS_A : Ann := .seq .nil (.seq (.seq .nil (.loop laws_heldIntS_J0 laws_heldIntS_O0 laws_heldIntS_B0 .nil)) .nil)
theorem laws_heldIntS_r0 (p : laws_heldIntS_J0.P) : run laws_heldIntS_x (subc [1, 0, 1, 0, 0] c31) .nil (laws_heldIntS_J0.S p) (leaf laws_heldIntS_J0 laws_heldIntS_O0) = laws_heldIntS_B0 p := by kernel_rfl
noncomputable def laws_heldIntS_D : Ve.Fn := ⟨31, laws_heldIntS_a, laws_heldIntS_o, laws_heldIntS_E, laws_heldIntS⟩
theorem laws_heldIntS_w : Walk Try.prog laws_heldIntS_x laws_heldIntS_D Try.f31 c31 21 laws_heldIntS_A :=
  ⟨⟨Try.func31, by kernel_rfl, by kernel_rfl, by kernel_rfl, by decide, by kernel_rfl, Nat.le_of_ble_eq_true (by kernel_rfl)⟩, by kernel_rfl, by kernel_rfl, by kernel_rfl, kcast (by kernel_rfl) (⟨laws_heldIntS_r0, trivial⟩ : (∀ p, run laws_heldIntS_x (subc [1, 0, 1, 0, 0] c31) .nil (laws_heldIntS_J0.S p) (leaf laws_heldIntS_J0 laws_heldIntS_O0) = laws_heldIntS_B0 p) ∧ True), by kernel_rfl, fun x y => by kernel_rfl⟩
theorem laws_heldIntS_s : laws_heldIntS_D.Says Try.prog := laws_heldIntS_w.says follows tabOk laws_markSpace_op21v_e_ok
noncomputable def laws_heldIntS_e : Env := more laws_markSpace_op21v_e laws_heldIntS_D
theorem laws_heldIntS_e_ok : EnvOk Try.prog laws_heldIntS_e := more_ok laws_markSpace_op21v_e_ok laws_heldIntS_s
/-! loop.example/g01128/laws.FnExactCheapestWay -/
abbrev laws_FnExactCheapestWay_J0 : Tpl := ⟨[(1, .val (.list I)), (2, .val I), (3, .val I), (4, .cst (.prod (.list (.list I)) (.list (.prod I I)))), (10, .val (.list I)), (11, .val .bool), (12, .ptr (12, 0)), (13, .own .shr I), (14, .own .shr I), (15, .val .bool), (64, .val .bool)], [((12, 0), .box (.prod (.own (.own .shr)) (.own .shr)) (.prod (.list (.list I)) (.list (.prod I I))))], []⟩
abbrev laws_FnExactCheapestWay_J1 : Tpl := ⟨[(1, .val (.list I)), (2, .val I), (3, .val I), (4, .cst (.prod (.list (.list I)) (.list (.prod I I)))), (10, .val (.list I)), (11, .val .bool), (12, .ptr (12, 0)), (13, .own .shr I), (14, .own .shr I), (15, .val .bool), (61, .val (.prod (.list (.list I)) (.list (.prod I I))))], [((12, 0), .box (.prod (.own (.own .shr)) (.own .shr)) (.prod (.list (.list I)) (.list (.prod I I))))], []⟩
abbrev laws_FnExactCheapestWay_E : Ve.End := ⟨[⟨8, .shr, .bool, none⟩], []⟩
abbrev laws_FnExactCheapestWay_a : List ASh := [.val (.prod (.list (.list I)) (.list (.prod I I))), .val (.list I), .val I, .val I]
abbrev laws_FnExactCheapestWay_o : List OSh := []
noncomputable def laws_FnExactCheapestWay_D0 : laws_FnExactCheapestWay_J1.P → Option laws_FnExactCheapestWay_J0.P
  | ((t1, t2, t3, t4, t10, t11, t13, t14, t15, t61, ()), (t12, ())) => match laws_toSpace (t61, ()) () with | some ((r, ()), ()) => (match laws_eqSpace ((t12.1, t12.2), (r.1, r.2), ()) () with | some ((r2, ()), ()) => some ((t1, t2, t3, t4, t10, t11, t13, t14, t15, (!r2), ()), (t12, ())) | none => none) | none => none
noncomputable def laws_FnExactCheapestWay_T0 : DT laws_FnExactCheapestWay_J0 := .node laws_FnExactCheapestWay_J1 laws_FnExactCheapestWay_D0 (.br [(0, .sole), (2, .sole), (3, .sole), (4, .flo)] .fin (.br [(2, .sole), (0, .qui), (3, .sole), (4, .flo)] .fin .nobr))
noncomputable def laws_FnExactCheapestWay : argP laws_FnExactCheapestWay_a → obP (extObs 0 laws_FnExactCheapestWay_o) → Option laws_FnExactCheapestWay_E.P
  | (t0, t1, t2, t3, ()), () => bif (decide ((1048576 : Int) < (List.length t1 : Int))) then (some ((true, ()), ())) else (match laws_szSpace (t0, (1048576 : Int), ()) () with | some ((r, ()), ()) => (bif (decide (r < (0 : Int))) then (some ((true, ()), ())) else (match laws_toSpace (t0, ()) () with | some ((r2, ()), ()) => (match laws_toIntS (t1, ()) () with | some ((r3, ()), ()) => (match spec_CheapestWay ((r2.1, r2.2), r3, t2, t3, ()) () with | some ((r4, r5, ()), ()) => (match laws_toSpace (t0, ()) () with | some ((r6, ()), ()) => (match laws_toIntS (t1, ()) () with | some ((r7, ()), ()) => (match impl_CheapestWay ((r6.1, r6.2), r7, t2, t3, ()) () with | some ((r8, r9, ()), ()) => (match laws_eqIntS (r8, r4, ()) () with | some ((r10, ()), ()) => (bif (!r10) then (some ((false, ()), ())) else (bif (!(r9 == r5)) then (some ((false, ()), ())) else (match laws_FnExactCheapestWay_D0 ((t1, t2, t3, t0, r4, r5, r7, r8, r9, t0, ()), ((r6.1, r6.2), ())) with | some ((t1_2, t2_2, t3_2, t4, t10, t11, t13, t14, t15, t64, ()), (t12, ())) => (bif t64 then (some ((false, ()), ())) else (match laws_toIntS (t1_2, ()) () with | some ((r11, ()), ()) => (match laws_eqIntS (t13, r11, ()) () with | some ((r12, ()), ()) => (bif (!r12) then (some ((false, ()), ())) else (match laws_markSpace_op21v ((t12.1, t12.2), (1 : Int), ()) () with | some ((r13, ()), ()) => (match laws_markIntS_e0v_ls (r13, ()) (t13, ()) with | some ((r14, ()), (o, ())) => (bif (decide (r14 < (0 : Int))) then (some ((false, ()), ())) else (match laws_eqIntS (t14, t10, ()) () with | some ((r15, ()), ()) => (bif (!r15) then (some ((false, ()), ())) else (bif (!(t15 == t11)) then (some ((false, ()), ())) else (match laws_markIntS_e0v_ls ((1 : Int), ()) (t14, ()) with | some ((r16, ()), (o2, ())) => (match laws_heldIntS (o2, (1 : Int), ()) () with | some ((r17, ()), ()) => (bif (decide (r17 < (0 : Int))) then (some ((false, ()), ())) else (bif (r17 != r16) then (some ((false, ()), ())) else (match laws_toSpace (t4, ()) () with | some ((r18, ()), ()) => (match laws_toIntS (t1_2, ()) () with | some ((r19, ()), ()) => (match impl_CheapestWay ((r18.1, r18.2), r19, t2_2, t3_2, ()) () with | some ((r20, r21, ()), ()) => (match laws_eqIntS (r20, t10, ()) () with | some ((r22, ()), ()) => (bif (!r22) then (some ((false, ()), ())) else (bif (!(r21 == t11)) then (some ((false, ()), ())) else (match laws_heldIntS (o2, (1 : Int), ()) () with | some ((r23, ()), ()) => (bif (decide (r23 < (0 : Int))) then (some ((false, ()), ())) else (bif (r23 != r16) then (some ((false, ()), ())) else (some ((true, ()), ())))) | none => none))) | none => none) | none => none) | none => none) | none => none))) | none => none) | none => none))) | none => none)) | none => none) | none => none)) | none => none) | none => none)) | none => none))) | none => none) | none => none) | none => none) | none => none) | none => none) | none => none) | none => none)) | none => none)
noncomputable def laws_FnExactCheapestWay_x : Cx := ⟨tab, laws_heldIntS_e, fun f n => bif Nat.beq f 29 && Nat.beq n 0 then 2 else bif Nat.beq f 30 && Nat.beq n 0 then 1 else 0, fun _ => false, [(26, 0), (26, 1), (26, 2), (26, 3), (31, 0), (31, 1), (31, 2), (31, 3), (33, 0), (33, 1), (33, 2), (33, 3), (36, 0), (36, 1), (36, 2), (36, 3), (10, 0), (53, 0), (53, 1), (53, 2), (53, 3), (62, 0), (62, 1), (62, 2), (62, 3), (63, 0), (63, 1), (63, 2), (63, 3), (67, 0), (67, 1), (67, 2), (67, 3), (68, 0), (68, 1), (68, 2), (68, 3), (72, 0), (72, 1), (72, 2), (72, 3), (75, 0), (75, 1), (75, 2), (75, 3), (81, 0), (81, 1), (81, 2), (81, 3), (91, 0), (91, 1), (91, 2), (91, 3), (94, 0), (94, 1), (94, 2), (94, 3), (102, 0), (102, 1), (102, 2), (102, 3), (104, 0), (104, 1), (104, 2), (104, 3), (107, 0), (107, 1), (107, 2), (107, 3), (19, 0), (112, 0), (112, 1), (112, 2), (112, 3), (121, 0), (121, 1), (121, 2), (121, 3)], [(4, 0)]⟩
noncomputable def c8 : Code := bodyOf Try.f8
noncomputable def laws_FnExactCheapestWay_A : Ann := .seq .nil (.seq .nil (.seq .nil (.seq .nil (.seq .nil (.seq .nil (.seq .nil (.seq .nil (.seq .nil (.seq .nil (.seq (.seq (.draws [(1, .flo)] laws_FnExactCheapestWay_J0 laws_FnExactCheapestWay_T0) .nil) .nil))))))))))
theorem laws_FnExactCheapestWay_D0b0 (p : laws_FnExactCheapestWay_J1.P) : runDrawn laws_FnExactCheapestWay_x (opsOf (subc [1, 1, 1, 1, 1, 1, 1, 1, 1, 1, 0, 0] c8)) [(0, .sole), (2, .sole), (3, .sole), (4, .flo)] (laws_FnExactCheapestWay_J1.S p) (endT laws_FnExactCheapestWay_x (.fin : DT laws_FnExactCheapestWay_J0)) = laws_FnExactCheapestWay_D0 p := by kernel_rfl
theorem laws_FnExactCheapestWay_D0b1 (p : laws_FnExactCheapestWay_J1.P) : runDrawn laws_FnExactCheapestWay_x (opsOf (subc [1, 1, 1, 1, 1, 1, 1, 1, 1, 1, 0, 0] c8)) [(2, .sole), (0, .qui), (3, .sole), (4, .flo)] (laws_FnExactCheapestWay_J1.S p) (endT laws_FnExactCheapestWay_x (.fin : DT laws_FnExactCheapestWay_J0)) = laws_FnExactCheapestWay_D0 p := by kernel_rfl
noncomputable def laws_FnExactCheapestWay_D : Ve.Fn := ⟨8, laws_FnExactCheapestWay_a, laws_FnExactCheapestWay_o, laws_FnExactCheapestWay_E, laws_FnExactCheapestWay⟩
theorem laws_FnExactCheapestWay_w : Walk Try.prog laws_FnExactCheapestWay_x laws_FnExactCheapestWay_D Try.f8 c8 127 laws_FnExactCheapestWay_A :=
  ⟨⟨Try.func8, by kernel_rfl, by kernel_rfl, by kernel_rfl, by decide, by kernel_rfl, Nat.le_of_ble_eq_true (by kernel_rfl)⟩, by kernel_rfl, by kernel_rfl, by kernel_rfl, kcast (by kernel_rfl) (⟨laws_FnExactCheapestWay_D0b0, laws_FnExactCheapestWay_D0b1, trivial⟩ : (∀ p, runDrawn laws_FnExactCheapestWay_x (opsOf (subc [1, 1, 1, 1, 1, 1, 1, 1, 1, 1, 0, 0] c8)) [(0, .sole), (2, .sole), (3, .sole), (4, .flo)] (laws_FnExactCheapestWay_J1.S p) (endT laws_FnExactCheapestWay_x (.fin : DT laws_FnExactCheapestWay_J0)) = laws_FnExactCheapestWay_D0 p) ∧ (∀ p, runDrawn laws_FnExactCheapestWay_x (opsOf (subc [1, 1, 1, 1, 1, 1, 1, 1, 1, 1, 0, 0] c8)) [(2, .sole), (0, .qui), (3, .sole), (4, .flo)] (laws_FnExactCheapestWay_J1.S p) (endT laws_FnExactCheapestWay_x (.fin : DT laws_FnExactCheapestWay_J0)) = laws_FnExactCheapestWay_D0 p) ∧ True), by kernel_rfl, fun x y => by kernel_rfl⟩
theorem laws_FnExactCheapestWay_s : laws_FnExactCheapestWay_D.Says Try.prog := laws_FnExactCheapestWay_w.says follows tabOk laws_heldIntS_e_ok
noncomputable def laws_FnExactCheapestWay_e : Env := more laws_heldIntS_e laws_FnExactCheapestWay_D
theorem laws_FnExactCheapestWay_e_ok : EnvOk Try.prog laws_FnExactCheapestWay_e := more_ok laws_heldIntS_e_ok laws_FnExactCheapestWay_s
end Go.Proofs.Ytolabkhcmcfnpaa.V
