/-
  What the functions that the law reaches compute: typed pure functions, checked against the code.
-/
import Derived.Test.YtolabkhcmcfnpaaProg
import Derived.Test.YtolabkhcmcfnpaaE3
import Derived.Test.YtolabkhcmcfnpaaS
namespace Go.Proofs.Ytolabkhcmcfnpaa.V
open Go.Ve Go.Proofs
set_option linter.unusedVariables false
set_option linter.unusedSimpArgs false
set_option maxRecDepth 100000
def tab : Tab := [(3, .data ⟨I, 0, 8, false⟩), (4, .data ⟨.bool, 0, 1, false⟩), (22, .data ⟨(.list (.list I)), 0, 24, false⟩), (23, .data ⟨(.list (.prod I I)), 0, 16, false⟩), (25, .data ⟨(.prod (.list (.list I)) (.list (.prod I I))), 2, 48, false⟩), (26, .data ⟨(.list I), 0, 8, false⟩), (30, .data ⟨(.prod (.list (.list I)) (.list (.prod I I))), 2, 48, false⟩), (71, .data ⟨(.prod I I), 2, 16, true⟩), (72, .fn), (106, .fn), (116, .fn), (125, .data ⟨(.int .u64), 0, 8, false⟩), (144, .data ⟨(.int .u32), 0, 4, false⟩), (146, .data ⟨(.int .u64), 0, 8, false⟩)]
theorem follows : Try.prog.follows .mixedOrders = true := by kernel_rfl
theorem ti3 : TiOk Try.prog tab 3 ⟨I, 0, 8, false⟩ := ti_int (by kernel_rfl) Try.underlying3
theorem ti4 : TiOk Try.prog tab 4 ⟨.bool, 0, 1, false⟩ := ti_bool (by kernel_rfl) Try.underlying4
theorem ti22 : TiOk Try.prog tab 22 ⟨(.list (.list I)), 0, 24, false⟩ := ti_list (ie := ⟨(.list I), 0, 8, false⟩) (by kernel_rfl) Try.underlying22 (by kernel_rfl) rfl (by kernel_rfl) (by kernel_rfl)
theorem ti23 : TiOk Try.prog tab 23 ⟨(.list (.prod I I)), 0, 16, false⟩ := ti_list (ie := ⟨(.prod I I), 2, 16, true⟩) (by kernel_rfl) Try.underlying23 (by kernel_rfl) rfl (by kernel_rfl) (by kernel_rfl)
theorem ti25 : TiOk Try.prog tab 25 ⟨(.prod (.list (.list I)) (.list (.prod I I))), 2, 48, false⟩ := ti_struct (by kernel_rfl) Try.underlying25 (by kernel_rfl) (by kernel_rfl) (by kernel_rfl) (by kernel_rfl)
theorem ti26 : TiOk Try.prog tab 26 ⟨(.list I), 0, 8, false⟩ := ti_list (ie := ⟨I, 0, 8, false⟩) (by kernel_rfl) Try.underlying26 (by kernel_rfl) rfl (by kernel_rfl) (by kernel_rfl)
theorem ti30 : TiOk Try.prog tab 30 ⟨(.prod (.list (.list I)) (.list (.prod I I))), 2, 48, false⟩ := ti_struct (by kernel_rfl) Try.underlying30 (by kernel_rfl) (by kernel_rfl) (by kernel_rfl) (by kernel_rfl)
theorem ti71 : TiOk Try.prog tab 71 ⟨(.prod I I), 2, 16, true⟩ := ti_arr (ie := ⟨I, 0, 8, false⟩) (by kernel_rfl) Try.underlying71 (by kernel_rfl) rfl (by kernel_rfl) (by kernel_rfl)
theorem ti72 : FnOk Try.prog 72 := ti_fn (by kernel_rfl) (Try.underlying72)
theorem ti106 : FnOk Try.prog 106 := ti_fn (by kernel_rfl) (Try.underlying106)
theorem ti116 : FnOk Try.prog 116 := ti_fn (by kernel_rfl) (Try.underlying116)
theorem ti125 : TiOk Try.prog tab 125 ⟨(.int .u64), 0, 8, false⟩ := ti_int (by kernel_rfl) Try.underlying125
theorem ti144 : TiOk Try.prog tab 144 ⟨(.int .u32), 0, 4, false⟩ := ti_int (by kernel_rfl) Try.underlying144
theorem ti146 : TiOk Try.prog tab 146 ⟨(.int .u64), 0, 8, false⟩ := ti_int (by kernel_rfl) Try.underlying146
theorem tabOk : TabOk' Try.prog tab := tabOk_of ⟨ti3, ti4, ti22, ti23, ti25, ti26, ti30, ti71, ti72, ti106, ti116, ti125, ti144, ti146, trivial⟩
noncomputable def M121_e : Env := moreMk noEnv 121 153 26
theorem M121_e_ok : EnvOk Try.prog M121_e := moreMk_ok noEnv_ok (mk_ok Try.func121 (by kernel_rfl) rfl (by kernel_rfl) (by kernel_rfl))
/-! loop.example/g01128/laws.szIntS -/
abbrev laws_szIntS_E : Ve.End := ⟨[⟨4, .shr, I, none⟩], []⟩
abbrev laws_szIntS_a : List ASh := [.val (.list I), .val I]
abbrev laws_szIntS_o : List OSh := []
noncomputable def laws_szIntS : argP laws_szIntS_a → obP (extObs 0 laws_szIntS_o) → Option laws_szIntS_E.P
  | (a, left, ()), () => bif (decide ((w64 (left - (List.length a : Int))) < (0 : Int))) then (some (((-1 : Int), ()), ())) else (some (((w64 (left - (List.length a : Int))), ()), ()))
noncomputable def laws_szIntS_x : Cx := ⟨tab, M121_e, fun _ _ => 0, fun _ => false, [], []⟩
noncomputable def c59 : Code := bodyOf Try.f59
noncomputable def laws_szIntS_A : Ann := .nil
noncomputable def laws_szIntS_D : Ve.Fn := ⟨59, laws_szIntS_a, laws_szIntS_o, laws_szIntS_E, laws_szIntS⟩
theorem laws_szIntS_w : Walk Try.prog laws_szIntS_x laws_szIntS_D Try.f59 c59 12 laws_szIntS_A :=
  ⟨⟨Try.func59, by kernel_rfl, by kernel_rfl, by kernel_rfl, by decide, by kernel_rfl, Nat.le_of_ble_eq_true (by kernel_rfl)⟩, by kernel_rfl, by kernel_rfl, by kernel_rfl, kcast (by kernel_rfl) trivial, by kernel_rfl, fun x y => by kernel_rfl⟩
theorem laws_szIntS_s : laws_szIntS_D.Says Try.prog := laws_szIntS_w.says follows tabOk M121_e_ok
noncomputable def laws_szIntS_e : Env := more M121_e laws_szIntS_D
theorem laws_szIntS_e_ok : EnvOk Try.prog laws_szIntS_e := more_ok M121_e_ok laws_szIntS_s
/-! loop.example/g01128/laws.szIntSS -/
abbrev laws_szIntSS_J0 : Tpl := ⟨[(0, .val (.list (.list I))), (1, .val I), (5, .val I)], [], []⟩
abbrev laws_szIntSS_J1 : Tpl := ⟨[(4, .val I)], [], []⟩
abbrev laws_szIntSS_J2 : Tpl := ⟨[(1, .val I)], [], []⟩
abbrev laws_szIntSS_E : Ve.End := ⟨[⟨4, .shr, I, none⟩], []⟩
abbrev laws_szIntSS_a : List ASh := [.val (.list (.list I)), .val I]
abbrev laws_szIntSS_o : List OSh := []
abbrev laws_szIntSS_O0 : Out := .or .ret laws_szIntSS_J1 (.one (.ex 0) laws_szIntSS_J2)
noncomputable def laws_szIntSS_B0 : laws_szIntSS_J0.P → Option (laws_szIntSS_J0.P ⊕ laws_szIntSS_O0.P)
  | ((a, left, i, ()), ()) => bif (decide (i < (List.length a : Int))) then (guardB (inb i (List.length a)) (match laws_szIntS ((List.getD a (Int.toNat i) ([] : (List Int))), left, ()) () with | some ((r, ()), ()) => (bif (decide (r < (0 : Int))) then (some (.inr (.inl (((-1 : Int), ()), ())))) else (some (.inl ((a, r, (w64 (i + (1 : Int))), ()), ())))) | none => none)) else (some (.inr (.inr ((left, ()), ()))))
noncomputable def laws_szIntSS : argP laws_szIntSS_a → obP (extObs 0 laws_szIntSS_o) → Option laws_szIntSS_E.P
  | (a, left, ()), () => bif (decide ((w64 (left - (List.length a : Int))) < (0 : Int))) then (some (((-1 : Int), ()), ())) else (match loopO laws_szIntSS_B0 ((a, (w64 (left - (List.length a : Int))), (0 : Int), ()), ()) with | some (.inl ((t4, ()), ())) => some ((t4, ()), ()) | some (.inr ((left2, ()), ())) => some ((left2, ()), ()) | none => none)
noncomputable def laws_szIntSS_x : Cx := ⟨tab, laws_szIntS_e, fun _ _ => 0, fun _ => false, [(23, 0), (23, 1), (23, 2), (23, 3)], []⟩
noncomputable def c22 : Code := bodyOf Try.f22
noncomputable def laws_szIntSS_A : Ann := .seq .nil (.seq .nil (.seq .nil (.seq (.seq .nil (.loop laws_szIntSS_J0 laws_szIntSS_O0 laws_szIntSS_B0 .nil)) .nil)))
theorem laws_szIntSS_r0 (p : laws_szIntSS_J0.P) : run laws_szIntSS_x (subc [1, 1, 1, 0, 1, 0, 0] c22) .nil (laws_szIntSS_J0.S p) (leaf laws_szIntSS_J0 laws_szIntSS_O0) = laws_szIntSS_B0 p := by kernel_rfl
noncomputable def laws_szIntSS_D : Ve.Fn := ⟨22, laws_szIntSS_a, laws_szIntSS_o, laws_szIntSS_E, laws_szIntSS⟩
theorem laws_szIntSS_w : Walk Try.prog laws_szIntSS_x laws_szIntSS_D Try.f22 c22 27 laws_szIntSS_A :=
  ⟨⟨Try.func22, by kernel_rfl, by kernel_rfl, by kernel_rfl, by decide, by kernel_rfl, Nat.le_of_ble_eq_true (by kernel_rfl)⟩, by kernel_rfl, by kernel_rfl, by kernel_rfl, kcast (by kernel_rfl) (⟨laws_szIntSS_r0, trivial⟩ : (∀ p, run laws_szIntSS_x (subc [1, 1, 1, 0, 1, 0, 0] c22) .nil (laws_szIntSS_J0.S p) (leaf laws_szIntSS_J0 laws_szIntSS_O0) = laws_szIntSS_B0 p) ∧ True), by kernel_rfl, fun x y => by kernel_rfl⟩
theorem laws_szIntSS_s : laws_szIntSS_D.Says Try.prog := laws_szIntSS_w.says follows tabOk laws_szIntS_e_ok
noncomputable def laws_szIntSS_e : Env := more laws_szIntS_e laws_szIntSS_D
theorem laws_szIntSS_e_ok : EnvOk Try.prog laws_szIntSS_e := more_ok laws_szIntS_e_ok laws_szIntSS_s
/-! loop.example/g01128/laws.szIntA2S -/
abbrev laws_szIntA2S_E : Ve.End := ⟨[⟨4, .shr, I, none⟩], []⟩
abbrev laws_szIntA2S_a : List ASh := [.val (.list (.prod I I)), .val I]
abbrev laws_szIntA2S_o : List OSh := []
noncomputable def laws_szIntA2S : argP laws_szIntA2S_a → obP (extObs 0 laws_szIntA2S_o) → Option laws_szIntA2S_E.P
  | (a, left, ()), () => bif (decide ((w64 (left - (List.length a : Int))) < (0 : Int))) then (some (((-1 : Int), ()), ())) else (some (((w64 (left - (List.length a : Int))), ()), ()))
noncomputable def laws_szIntA2S_x : Cx := ⟨tab, laws_szIntSS_e, fun _ _ => 0, fun _ => false, [], []⟩
noncomputable def c52 : Code := bodyOf Try.f52
noncomputable def laws_szIntA2S_A : Ann := .nil
noncomputable def laws_szIntA2S_D : Ve.Fn := ⟨52, laws_szIntA2S_a, laws_szIntA2S_o, laws_szIntA2S_E, laws_szIntA2S⟩
theorem laws_szIntA2S_w : Walk Try.prog laws_szIntA2S_x laws_szIntA2S_D Try.f52 c52 12 laws_szIntA2S_A :=
  ⟨⟨Try.func52, by kernel_rfl, by kernel_rfl, by kernel_rfl, by decide, by kernel_rfl, Nat.le_of_ble_eq_true (by kernel_rfl)⟩, by kernel_rfl, by kernel_rfl, by kernel_rfl, kcast (by kernel_rfl) trivial, by kernel_rfl, fun x y => by kernel_rfl⟩
theorem laws_szIntA2S_s : laws_szIntA2S_D.Says Try.prog := laws_szIntA2S_w.says follows tabOk laws_szIntSS_e_ok
noncomputable def laws_szIntA2S_e : Env := more laws_szIntSS_e laws_szIntA2S_D
theorem laws_szIntA2S_e_ok : EnvOk Try.prog laws_szIntA2S_e := more_ok laws_szIntSS_e_ok laws_szIntA2S_s
/-! loop.example/g01128/laws.szSpace -/
abbrev laws_szSpace_E : Ve.End := ⟨[⟨4, .shr, I, none⟩], []⟩
abbrev laws_szSpace_a : List ASh := [.val (.prod (.list (.list I)) (.list (.prod I I))), .val I]
abbrev laws_szSpace_o : List OSh := []
noncomputable def laws_szSpace : argP laws_szSpace_a → obP (extObs 0 laws_szSpace_o) → Option laws_szSpace_E.P
  | (a, left, ()), () => match laws_szIntSS (a.1, left, ()) () with | some ((r, ()), ()) => (bif (decide (r < (0 : Int))) then (some (((-1 : Int), ()), ())) else (match laws_szIntA2S (a.2, r, ()) () with | some ((r2, ()), ()) => (bif (decide (r2 < (0 : Int))) then (some (((-1 : Int), ()), ())) else (some ((r2, ()), ()))) | none => none)) | none => none
noncomputable def laws_szSpace_x : Cx := ⟨tab, laws_szIntA2S_e, fun _ _ => 0, fun _ => false, [(8, 0), (8, 1), (8, 2), (8, 3), (14, 0), (14, 1), (14, 2), (14, 3)], [(2, 0)]⟩
noncomputable def c15 : Code := bodyOf Try.f15
noncomputable def laws_szSpace_A : Ann := .nil
noncomputable def laws_szSpace_D : Ve.Fn := ⟨15, laws_szSpace_a, laws_szSpace_o, laws_szSpace_E, laws_szSpace⟩
theorem laws_szSpace_w : Walk Try.prog laws_szSpace_x laws_szSpace_D Try.f15 c15 18 laws_szSpace_A :=
  ⟨⟨Try.func15, by kernel_rfl, by kernel_rfl, by kernel_rfl, by decide, by kernel_rfl, Nat.le_of_ble_eq_true (by kernel_rfl)⟩, by kernel_rfl, by kernel_rfl, by kernel_rfl, kcast (by kernel_rfl) trivial, by kernel_rfl, fun x y => by kernel_rfl⟩
theorem laws_szSpace_s : laws_szSpace_D.Says Try.prog := laws_szSpace_w.says follows tabOk laws_szIntA2S_e_ok
noncomputable def laws_szSpace_e : Env := more laws_szIntA2S_e laws_szSpace_D
theorem laws_szSpace_e_ok : EnvOk Try.prog laws_szSpace_e := more_ok laws_szIntA2S_e_ok laws_szSpace_s
/-! loop.example/g01128/laws.toIntS -/
abbrev laws_toIntS_J0 : Tpl := ⟨[(0, .val (.list I)), (3, .own .shr I), (4, .val I)], [], []⟩
abbrev laws_toIntS_J1 : Tpl := ⟨[(3, .own .shr I)], [], []⟩
abbrev laws_toIntS_E : Ve.End := ⟨[⟨2, (.own .shr), (.list I), none⟩], []⟩
abbrev laws_toIntS_a : List ASh := [.val (.list I)]
abbrev laws_toIntS_o : List OSh := []
abbrev laws_toIntS_O0 : Out := .one (.ex 0) laws_toIntS_J1
noncomputable def laws_toIntS_B0 : laws_toIntS_J0.P → Option (laws_toIntS_J0.P ⊕ laws_toIntS_O0.P)
  | ((a, out, i, ()), ()) => bif (decide (i < (List.length a : Int))) then (guardB (inb i (List.length a)) (guardB (inb i (List.length out)) (some (.inl ((a, (List.set out (Int.toNat i) (List.getD a (Int.toNat i) (0 : Int))), (w64 (i + (1 : Int))), ()), ()))))) else (some (.inr ((out, ()), ())))
noncomputable def laws_toIntS : argP laws_toIntS_a → obP (extObs 0 laws_toIntS_o) → Option laws_toIntS_E.P
  | (a, ()), () => guardB (decide (0 ≤ (List.length a : Int)) && decide ((List.length a : Int) ≤ (List.length a : Int)) && decide ((List.length a : Int) * 8 ≤ 140737488355328)) (match loopO laws_toIntS_B0 ((a, (List.replicate (Int.toNat (List.length a : Int)) (0 : Int)), (0 : Int), ()), ()) with | some ((out, ()), ()) => some ((out, ()), ()) | none => none)
noncomputable def laws_toIntS_x : Cx := ⟨tab, laws_szSpace_e, fun _ _ => 0, fun _ => false, [], []⟩
noncomputable def c18 : Code := bodyOf Try.f18
noncomputable def laws_toIntS_A : Ann := .seq .nil (.seq .nil (.seq (.seq .nil (.loop laws_toIntS_J0 laws_toIntS_O0 laws_toIntS_B0 .nil)) .nil))
theorem laws_toIntS_r0 (p : laws_toIntS_J0.P) : run laws_toIntS_x (subc [1, 1, 0, 1, 0, 0] c18) .nil (laws_toIntS_J0.S p) (leaf laws_toIntS_J0 laws_toIntS_O0) = laws_toIntS_B0 p := by kernel_rfl
noncomputable def laws_toIntS_D : Ve.Fn := ⟨18, laws_toIntS_a, laws_toIntS_o, laws_toIntS_E, laws_toIntS⟩
theorem laws_toIntS_w : Walk Try.prog laws_toIntS_x laws_toIntS_D Try.f18 c18 22 laws_toIntS_A :=
  ⟨⟨Try.func18, by kernel_rfl, by kernel_rfl, by kernel_rfl, by decide, by kernel_rfl, Nat.le_of_ble_eq_true (by kernel_rfl)⟩, by kernel_rfl, by kernel_rfl, by kernel_rfl, kcast (by kernel_rfl) (⟨laws_toIntS_r0, trivial⟩ : (∀ p, run laws_toIntS_x (subc [1, 1, 0, 1, 0, 0] c18) .nil (laws_toIntS_J0.S p) (leaf laws_toIntS_J0 laws_toIntS_O0) = laws_toIntS_B0 p) ∧ True), by kernel_rfl, fun x y => by kernel_rfl⟩
theorem laws_toIntS_s : laws_toIntS_D.Says Try.prog := laws_toIntS_w.says follows tabOk laws_szSpace_e_ok
noncomputable def laws_toIntS_e : Env := more laws_szSpace_e laws_toIntS_D
theorem laws_toIntS_e_ok : EnvOk Try.prog laws_toIntS_e := more_ok laws_szSpace_e_ok laws_toIntS_s
/-! loop.example/g01128/laws.toIntSS -/
abbrev laws_toIntSS_J0 : Tpl := ⟨[(0, .val (.list (.list I))), (3, .own (.own .shr) (.list I)), (4, .val I)], [], []⟩
abbrev laws_toIntSS_J1 : Tpl := ⟨[(3, .own (.own .shr) (.list I))], [], []⟩
abbrev laws_toIntSS_E : Ve.End := ⟨[⟨2, (.own (.own .shr)), (.list (.list I)), none⟩], []⟩
abbrev laws_toIntSS_a : List ASh := [.val (.list (.list I))]
abbrev laws_toIntSS_o : List OSh := []
abbrev laws_toIntSS_O0 : Out := .one (.ex 0) laws_toIntSS_J1
noncomputable def laws_toIntSS_B0 : laws_toIntSS_J0.P → Option (laws_toIntSS_J0.P ⊕ laws_toIntSS_O0.P)
  | ((a, out, i, ()), ()) => bif (decide (i < (List.length a : Int))) then (guardB (inb i (List.length a)) (match laws_toIntS ((List.getD a (Int.toNat i) ([] : (List Int))), ()) () with | some ((r, ()), ()) => guardB (inb i (List.length out)) (some (.inl ((a, (List.set out (Int.toNat i) r), (w64 (i + (1 : Int))), ()), ()))) | none => none)) else (some (.inr ((out, ()), ())))
noncomputable def laws_toIntSS : argP laws_toIntSS_a → obP (extObs 0 laws_toIntSS_o) → Option laws_toIntSS_E.P
  | (a, ()), () => guardB (decide (0 ≤ (List.length a : Int)) && decide ((List.length a : Int) ≤ (List.length a : Int)) && decide ((List.length a : Int) * 24 ≤ 140737488355328)) (match loopO laws_toIntSS_B0 ((a, (List.replicate (Int.toNat (List.length a : Int)) ([] : (List Int))), (0 : Int), ()), ()) with | some ((out, ()), ()) => some ((out, ()), ()) | none => none)
noncomputable def laws_toIntSS_x : Cx := ⟨tab, laws_toIntS_e, fun _ _ => 0, fun _ => false, [], []⟩
noncomputable def c24 : Code := bodyOf Try.f24
noncomputable def laws_toIntSS_A : Ann := .seq .nil (.seq .nil (.seq (.seq .nil (.loop laws_toIntSS_J0 laws_toIntSS_O0 laws_toIntSS_B0 .nil)) .nil))
theorem laws_toIntSS_r0 (p : laws_toIntSS_J0.P) : run laws_toIntSS_x (subc [1, 1, 0, 1, 0, 0] c24) .nil (laws_toIntSS_J0.S p) (leaf laws_toIntSS_J0 laws_toIntSS_O0) = laws_toIntSS_B0 p := by kernel_rfl
noncomputable def laws_toIntSS_D : Ve.Fn := ⟨24, laws_toIntSS_a, laws_toIntSS_o, laws_toIntSS_E, laws_toIntSS⟩
theorem laws_toIntSS_w : Walk Try.prog laws_toIntSS_x laws_toIntSS_D Try.f24 c24 23 laws_toIntSS_A :=
  ⟨⟨Try.func24, by kernel_rfl, by kernel_rfl, by kernel_rfl, by decide, by kernel_rfl, Nat.le_of_ble_eq_true (by kernel_rfl)⟩, by kernel_rfl, by kernel_rfl, by kernel_rfl, kcast (by kernel_rfl) (⟨laws_toIntSS_r0, trivial⟩ : (∀ p, run laws_toIntSS_x (subc [1, 1, 0, 1, 0, 0] c24) .nil (laws_toIntSS_J0.S p) (leaf laws_toIntSS_J0 laws_toIntSS_O0) = laws_toIntSS_B0 p) ∧ True), by kernel_rfl, fun x y => by kernel_rfl⟩
theorem laws_toIntSS_s : laws_toIntSS_D.Says Try.prog := laws_toIntSS_w.says follows tabOk laws_toIntS_e_ok
noncomputable def laws_toIntSS_e : Env := more laws_toIntS_e laws_toIntSS_D
theorem laws_toIntSS_e_ok : EnvOk Try.prog laws_toIntSS_e := more_ok laws_toIntS_e_ok laws_toIntSS_s
/-! loop.example/g01128/laws.toIntA2 -/
abbrev laws_toIntA2_J0 : Tpl := ⟨[(1, .cst (.prod I I)), (2, .ptr (2, 0)), (3, .ptr (3, 0)), (4, .val I)], [((2, 0), .box .shr (.prod I I)), ((3, 0), .box .shr (.prod I I))], []⟩
abbrev laws_toIntA2_J1 : Tpl := ⟨[(2, .ptr (2, 0)), (3, .ptr (3, 0))], [((2, 0), .box .shr (.prod I I)), ((3, 0), .box .shr (.prod I I))], []⟩
abbrev laws_toIntA2_E : Ve.End := ⟨[⟨2, .shr, (.prod I I), some 71⟩], []⟩
abbrev laws_toIntA2_a : List ASh := [.val (.prod I I)]
abbrev laws_toIntA2_o : List OSh := []
abbrev laws_toIntA2_O0 : Out := .one (.ex 0) laws_toIntA2_J1
noncomputable def laws_toIntA2_B0 : laws_toIntA2_J0.P → Option (laws_toIntA2_J0.P ⊕ laws_toIntA2_O0.P)
  | ((a, i, ()), (t2, out, ())) => bif (decide (i < (2 : Int))) then (guardB (decide (0 ≤ i) && decide (i < 2)) (guardB (decide (0 ≤ i) && decide (i < 2)) (some (.inl ((a, (w64 (i + (1 : Int))), ()), (t2, (bif Nat.beq (Int.toNat i) 0 then ((bif Nat.beq (Int.toNat i) 0 then a.1 else a.2), out.2) else (out.1, (bif Nat.beq (Int.toNat i) 0 then a.1 else a.2))), ())))))) else (some (.inr ((), (t2, out, ()))))
noncomputable def laws_toIntA2 : argP laws_toIntA2_a → obP (extObs 0 laws_toIntA2_o) → Option laws_toIntA2_E.P
  | (a, ()), () => match loopO laws_toIntA2_B0 ((a, (0 : Int), ()), (((0 : Int), (0 : Int)), ((0 : Int), (0 : Int)), ())) with | some ((), (t2, out, ())) => some ((out, ()), ()) | none => none
noncomputable def laws_toIntA2_x : Cx := ⟨tab, laws_toIntSS_e, fun _ _ => 0, fun _ => false, [], [(1, 0)]⟩
noncomputable def c115 : Code := bodyOf Try.f115
noncomputable def laws_toIntA2_A : Ann := .seq .nil (.seq .nil (.seq (.seq .nil (.loop laws_toIntA2_J0 laws_toIntA2_O0 laws_toIntA2_B0 .nil)) .nil))
theorem laws_toIntA2_r0 (p : laws_toIntA2_J0.P) : run laws_toIntA2_x (subc [1, 1, 0, 1, 0, 0] c115) .nil (laws_toIntA2_J0.S p) (leaf laws_toIntA2_J0 laws_toIntA2_O0) = laws_toIntA2_B0 p := by kernel_rfl
noncomputable def laws_toIntA2_D : Ve.Fn := ⟨115, laws_toIntA2_a, laws_toIntA2_o, laws_toIntA2_E, laws_toIntA2⟩
theorem laws_toIntA2_w : Walk Try.prog laws_toIntA2_x laws_toIntA2_D Try.f115 c115 15 laws_toIntA2_A :=
  ⟨⟨Try.func115, by kernel_rfl, by kernel_rfl, by kernel_rfl, by decide, by kernel_rfl, Nat.le_of_ble_eq_true (by kernel_rfl)⟩, by kernel_rfl, by kernel_rfl, by kernel_rfl, kcast (by kernel_rfl) (⟨laws_toIntA2_r0, trivial⟩ : (∀ p, run laws_toIntA2_x (subc [1, 1, 0, 1, 0, 0] c115) .nil (laws_toIntA2_J0.S p) (leaf laws_toIntA2_J0 laws_toIntA2_O0) = laws_toIntA2_B0 p) ∧ True), by kernel_rfl, fun x y => by kernel_rfl⟩
theorem laws_toIntA2_s : laws_toIntA2_D.Says Try.prog := laws_toIntA2_w.says follows tabOk laws_toIntSS_e_ok
noncomputable def laws_toIntA2_e : Env := more laws_toIntSS_e laws_toIntA2_D
theorem laws_toIntA2_e_ok : EnvOk Try.prog laws_toIntA2_e := more_ok laws_toIntSS_e_ok laws_toIntA2_s
/-! loop.example/g01128/laws.toIntA2S -/
abbrev laws_toIntA2S_J0 : Tpl := ⟨[(0, .val (.list (.prod I I))), (3, .own .shr (.prod I I)), (4, .val I)], [], []⟩
abbrev laws_toIntA2S_J1 : Tpl := ⟨[(3, .own .shr (.prod I I))], [], []⟩
abbrev laws_toIntA2S_E : Ve.End := ⟨[⟨2, (.own .shr), (.list (.prod I I)), none⟩], []⟩
abbrev laws_toIntA2S_a : List ASh := [.val (.list (.prod I I))]
abbrev laws_toIntA2S_o : List OSh := []
abbrev laws_toIntA2S_O0 : Out := .one (.ex 0) laws_toIntA2S_J1
noncomputable def laws_toIntA2S_B0 : laws_toIntA2S_J0.P → Option (laws_toIntA2S_J0.P ⊕ laws_toIntA2S_O0.P)
  | ((a, out, i, ()), ()) => bif (decide (i < (List.length a : Int))) then (guardB (inb i (List.length a)) (match laws_toIntA2 ((List.getD a (Int.toNat i) ((0 : Int), (0 : Int))), ()) () with | some ((r, ()), ()) => guardB (inb i (List.length out)) (some (.inl ((a, (List.set out (Int.toNat i) r), (w64 (i + (1 : Int))), ()), ()))) | none => none)) else (some (.inr ((out, ()), ())))
noncomputable def laws_toIntA2S : argP laws_toIntA2S_a → obP (extObs 0 laws_toIntA2S_o) → Option laws_toIntA2S_E.P
  | (a, ()), () => guardB (decide (0 ≤ (List.length a : Int)) && decide ((List.length a : Int) ≤ (List.length a : Int)) && decide ((List.length a : Int) * 16 ≤ 140737488355328)) (match loopO laws_toIntA2S_B0 ((a, (List.replicate (Int.toNat (List.length a : Int)) ((0 : Int), (0 : Int))), (0 : Int), ()), ()) with | some ((out, ()), ()) => some ((out, ()), ()) | none => none)
noncomputable def laws_toIntA2S_x : Cx := ⟨tab, laws_toIntA2_e, fun _ _ => 0, fun _ => false, [(20, 0), (20, 1), (20, 2), (20, 3)], []⟩
noncomputable def c55 : Code := bodyOf Try.f55
noncomputable def laws_toIntA2S_A : Ann := .seq .nil (.seq .nil (.seq (.seq .nil (.loop laws_toIntA2S_J0 laws_toIntA2S_O0 laws_toIntA2S_B0 .nil)) .nil))
theorem laws_toIntA2S_r0 (p : laws_toIntA2S_J0.P) : run laws_toIntA2S_x (subc [1, 1, 0, 1, 0, 0] c55) .nil (laws_toIntA2S_J0.S p) (leaf laws_toIntA2S_J0 laws_toIntA2S_O0) = laws_toIntA2S_B0 p := by kernel_rfl
noncomputable def laws_toIntA2S_D : Ve.Fn := ⟨55, laws_toIntA2S_a, laws_toIntA2S_o, laws_toIntA2S_E, laws_toIntA2S⟩
theorem laws_toIntA2S_w : Walk Try.prog laws_toIntA2S_x laws_toIntA2S_D Try.f55 c55 23 laws_toIntA2S_A :=
  ⟨⟨Try.func55, by kernel_rfl, by kernel_rfl, by kernel_rfl, by decide, by kernel_rfl, Nat.le_of_ble_eq_true (by kernel_rfl)⟩, by kernel_rfl, by kernel_rfl, by kernel_rfl, kcast (by kernel_rfl) (⟨laws_toIntA2S_r0, trivial⟩ : (∀ p, run laws_toIntA2S_x (subc [1, 1, 0, 1, 0, 0] c55) .nil (laws_toIntA2S_J0.S p) (leaf laws_toIntA2S_J0 laws_toIntA2S_O0) = laws_toIntA2S_B0 p) ∧ True), by kernel_rfl, fun x y => by kernel_rfl⟩
theorem laws_toIntA2S_s : laws_toIntA2S_D.Says Try.prog := laws_toIntA2S_w.says follows tabOk laws_toIntA2_e_ok
noncomputable def laws_toIntA2S_e : Env := more laws_toIntA2_e laws_toIntA2S_D
theorem laws_toIntA2S_e_ok : EnvOk Try.prog laws_toIntA2S_e := more_ok laws_toIntA2_e_ok laws_toIntA2S_s
/-! loop.example/g01128/laws.toSpace -/
abbrev laws_toSpace_E : Ve.End := ⟨[⟨2, (.prod (.own (.own .shr)) (.own .shr)), (.prod (.list (.list I)) (.list (.prod I I))), some 30⟩], []⟩
abbrev laws_toSpace_a : List ASh := [.val (.prod (.list (.list I)) (.list (.prod I I)))]
abbrev laws_toSpace_o : List OSh := []
noncomputable def laws_toSpace : argP laws_toSpace_a → obP (extObs 0 laws_toSpace_o) → Option laws_toSpace_E.P
  | (a, ()), () => match laws_toIntSS (a.1, ()) () with | some ((r, ()), ()) => (match laws_toIntA2S (a.2, ()) () with | some ((r2, ()), ()) => some (((r, r2), ()), ()) | none => none) | none => none
noncomputable def laws_toSpace_x : Cx := ⟨tab, laws_toIntA2S_e, fun _ _ => 0, fun _ => false, [], [(1, 0)]⟩
noncomputable def c17 : Code := bodyOf Try.f17
noncomputable def laws_toSpace_A : Ann := .nil
noncomputable def laws_toSpace_D : Ve.Fn := ⟨17, laws_toSpace_a, laws_toSpace_o, laws_toSpace_E, laws_toSpace⟩
theorem laws_toSpace_w : Walk Try.prog laws_toSpace_x laws_toSpace_D Try.f17 c17 13 laws_toSpace_A :=
  ⟨⟨Try.func17, by kernel_rfl, by kernel_rfl, by kernel_rfl, by decide, by kernel_rfl, Nat.le_of_ble_eq_true (by kernel_rfl)⟩, by kernel_rfl, by kernel_rfl, by kernel_rfl, kcast (by kernel_rfl) trivial, by kernel_rfl, fun x y => by kernel_rfl⟩
theorem laws_toSpace_s : laws_toSpace_D.Says Try.prog := laws_toSpace_w.says follows tabOk laws_toIntA2S_e_ok
noncomputable def laws_toSpace_e : Env := more laws_toIntA2S_e laws_toSpace_D
theorem laws_toSpace_e_ok : EnvOk Try.prog laws_toSpace_e := more_ok laws_toIntA2S_e_ok laws_toSpace_s
/-! loop.example/g01128/spec.l1In -/
abbrev spec_l1In_E : Ve.End := ⟨[⟨6, .shr, .bool, none⟩], []⟩
abbrev spec_l1In_a : List ASh := [.val I, .val I, .val I]
abbrev spec_l1In_o : List OSh := []
noncomputable def spec_l1In : argP spec_l1In_a → obP (extObs 0 spec_l1In_o) → Option spec_l1In_E.P
  | (x, a, b, ()), () => bif (decide (a ≤ x)) then (some (((decide (x ≤ b)), ()), ())) else (some ((false, ()), ()))
noncomputable def spec_l1In_x : Cx := ⟨tab, laws_toSpace_e, fun _ _ => 0, fun _ => false, [], []⟩
noncomputable def c63 : Code := bodyOf Try.f63
noncomputable def spec_l1In_A : Ann := .nil
noncomputable def spec_l1In_D : Ve.Fn := ⟨63, spec_l1In_a, spec_l1In_o, spec_l1In_E, spec_l1In⟩
theorem spec_l1In_w : Walk Try.prog spec_l1In_x spec_l1In_D Try.f63 c63 15 spec_l1In_A :=
  ⟨⟨Try.func63, by kernel_rfl, by kernel_rfl, by kernel_rfl, by decide, by kernel_rfl, Nat.le_of_ble_eq_true (by kernel_rfl)⟩, by kernel_rfl, by kernel_rfl, by kernel_rfl, kcast (by kernel_rfl) trivial, by kernel_rfl, fun x y => by kernel_rfl⟩
theorem spec_l1In_s : spec_l1In_D.Says Try.prog := spec_l1In_w.says follows tabOk laws_toSpace_e_ok
noncomputable def spec_l1In_e : Env := more laws_toSpace_e spec_l1In_D
theorem spec_l1In_e_ok : EnvOk Try.prog spec_l1In_e := more_ok laws_toSpace_e_ok spec_l1In_s
/-! loop.example/g01128/spec.l2State -/
abbrev spec_l2State_J0 : Tpl := ⟨[(0, .val (.list I)), (3, .val I)], [], []⟩
abbrev spec_l2State_J1 : Tpl := ⟨[(2, .val .bool)], [], []⟩
abbrev spec_l2State_J2 : Tpl := ⟨[(0, .val (.list I))], [], []⟩
abbrev spec_l2State_E : Ve.End := ⟨[⟨2, .shr, .bool, none⟩], []⟩
abbrev spec_l2State_a : List ASh := [.val (.list I)]
abbrev spec_l2State_o : List OSh := []
abbrev spec_l2State_O0 : Out := .or .ret spec_l2State_J1 (.one (.ex 0) spec_l2State_J2)
noncomputable def spec_l2State_B0 : spec_l2State_J0.P → Option (spec_l2State_J0.P ⊕ spec_l2State_O0.P)
  | ((state, i, ()), ()) => bif (decide (i < (List.length state : Int))) then (guardB (inb i (List.length state)) (match spec_l1In ((List.getD state (Int.toNat i) (0 : Int)), (-99 : Int), (99 : Int), ()) () with | some ((r, ()), ()) => (bif (!r) then (some (.inr (.inl ((false, ()), ())))) else (some (.inl ((state, (w64 (i + (1 : Int))), ()), ())))) | none => none)) else (some (.inr (.inr ((state, ()), ()))))
noncomputable def spec_l2State : argP spec_l2State_a → obP (extObs 0 spec_l2State_o) → Option spec_l2State_E.P
  | (state, ()), () => match loopO spec_l2State_B0 ((state, (0 : Int), ()), ()) with | some (.inl ((t2, ()), ())) => some ((t2, ()), ()) | some (.inr ((state2, ()), ())) => some (((decide ((List.length state2 : Int) ≤ (24 : Int))), ()), ()) | none => none
noncomputable def spec_l2State_x : Cx := ⟨tab, spec_l1In_e, fun _ _ => 0, fun _ => false, [(14, 0), (14, 1), (14, 2), (14, 3)], []⟩
noncomputable def c112 : Code := bodyOf Try.f112
noncomputable def spec_l2State_A : Ann := .seq .nil (.seq (.seq .nil (.loop spec_l2State_J0 spec_l2State_O0 spec_l2State_B0 .nil)) .nil)
theorem spec_l2State_r0 (p : spec_l2State_J0.P) : run spec_l2State_x (subc [1, 0, 1, 0, 0] c112) .nil (spec_l2State_J0.S p) (leaf spec_l2State_J0 spec_l2State_O0) = spec_l2State_B0 p := by kernel_rfl
noncomputable def spec_l2State_D : Ve.Fn := ⟨112, spec_l2State_a, spec_l2State_o, spec_l2State_E, spec_l2State⟩
theorem spec_l2State_w : Walk Try.prog spec_l2State_x spec_l2State_D Try.f112 c112 19 spec_l2State_A :=
  ⟨⟨Try.func112, by kernel_rfl, by kernel_rfl, by kernel_rfl, by decide, by kernel_rfl, Nat.le_of_ble_eq_true (by kernel_rfl)⟩, by kernel_rfl, by kernel_rfl, by kernel_rfl, kcast (by kernel_rfl) (⟨spec_l2State_r0, trivial⟩ : (∀ p, run spec_l2State_x (subc [1, 0, 1, 0, 0] c112) .nil (spec_l2State_J0.S p) (leaf spec_l2State_J0 spec_l2State_O0) = spec_l2State_B0 p) ∧ True), by kernel_rfl, fun x y => by kernel_rfl⟩
theorem spec_l2State_s : spec_l2State_D.Says Try.prog := spec_l2State_w.says follows tabOk spec_l1In_e_ok
noncomputable def spec_l2State_e : Env := more spec_l1In_e spec_l2State_D
theorem spec_l2State_e_ok : EnvOk Try.prog spec_l2State_e := more_ok spec_l1In_e_ok spec_l2State_s
/-! loop.example/g01128/spec.l2Before -/
abbrev spec_l2Before_J0 : Tpl := ⟨[(0, .val (.list I)), (1, .val (.list I)), (5, .val I)], [], []⟩
abbrev spec_l2Before_J1 : Tpl := ⟨[(4, .val .bool)], [], []⟩
abbrev spec_l2Before_J2 : Tpl := ⟨[(0, .val (.list I)), (1, .val (.list I))], [], []⟩
abbrev spec_l2Before_E : Ve.End := ⟨[⟨4, .shr, .bool, none⟩], []⟩
abbrev spec_l2Before_a : List ASh := [.val (.list I), .val (.list I)]
abbrev spec_l2Before_o : List OSh := []
abbrev spec_l2Before_O0 : Out := .or .ret spec_l2Before_J1 (.one (.ex 0) spec_l2Before_J2)
noncomputable def spec_l2Before_B0 : spec_l2Before_J0.P → Option (spec_l2Before_J0.P ⊕ spec_l2Before_O0.P)
  | ((a, b, i, ()), ()) => bif (decide (i < (List.length a : Int))) then (bif (decide (i < (List.length b : Int))) then (guardB (inb i (List.length a)) (guardB (inb i (List.length b)) (bif ((List.getD a (Int.toNat i) (0 : Int)) != (List.getD b (Int.toNat i) (0 : Int))) then (guardB (inb i (List.length a)) (guardB (inb i (List.length b)) (some (.inr (.inl (((decide ((List.getD a (Int.toNat i) (0 : Int)) < (List.getD b (Int.toNat i) (0 : Int)))), ()), ())))))) else (some (.inl ((a, b, (w64 (i + (1 : Int))), ()), ())))))) else (some (.inr (.inr ((a, b, ()), ()))))) else (some (.inr (.inr ((a, b, ()), ()))))
noncomputable def spec_l2Before : argP spec_l2Before_a → obP (extObs 0 spec_l2Before_o) → Option spec_l2Before_E.P
  | (a, b, ()), () => match loopO spec_l2Before_B0 ((a, b, (0 : Int), ()), ()) with | some (.inl ((t4, ()), ())) => some ((t4, ()), ()) | some (.inr ((a2, b2, ()), ())) => some (((decide ((List.length a2 : Int) < (List.length b2 : Int))), ()), ()) | none => none
noncomputable def spec_l2Before_x : Cx := ⟨tab, spec_l2State_e, fun _ _ => 0, fun _ => false, [], []⟩
noncomputable def c113 : Code := bodyOf Try.f113
noncomputable def spec_l2Before_A : Ann := .seq .nil (.seq (.seq .nil (.loop spec_l2Before_J0 spec_l2Before_O0 spec_l2Before_B0 (.seq .nil (.seq (.seq (.draw [(0, .flo), (1, .flo), (2, .flo), (3, .flo), (4, .flo), (5, .flo), (6, .flo), (7, .flo), (8, .flo)]) (.seq (.seq (.draw [(0, .flo), (1, .flo), (2, .flo), (3, .flo), (4, .flo), (5, .flo), (6, .flo), (7, .flo), (8, .flo), (9, .flo)]) .nil) .nil)) .nil)))) .nil)
theorem spec_l2Before_r0 (p : spec_l2Before_J0.P) : run spec_l2Before_x (subc [1, 0, 1, 0, 0] c113) (.seq .nil (.seq (.seq (.draw [(0, .flo), (1, .flo), (2, .flo), (3, .flo), (4, .flo), (5, .flo), (6, .flo), (7, .flo), (8, .flo)]) (.seq (.seq (.draw [(0, .flo), (1, .flo), (2, .flo), (3, .flo), (4, .flo), (5, .flo), (6, .flo), (7, .flo), (8, .flo), (9, .flo)]) .nil) .nil)) .nil)) (spec_l2Before_J0.S p) (leaf spec_l2Before_J0 spec_l2Before_O0) = spec_l2Before_B0 p := by kernel_rfl
noncomputable def spec_l2Before_D : Ve.Fn := ⟨113, spec_l2Before_a, spec_l2Before_o, spec_l2Before_E, spec_l2Before⟩
theorem spec_l2Before_w : Walk Try.prog spec_l2Before_x spec_l2Before_D Try.f113 c113 41 spec_l2Before_A :=
  ⟨⟨Try.func113, by kernel_rfl, by kernel_rfl, by kernel_rfl, by decide, by kernel_rfl, Nat.le_of_ble_eq_true (by kernel_rfl)⟩, by kernel_rfl, by kernel_rfl, by kernel_rfl, kcast (by kernel_rfl) (⟨spec_l2Before_r0, trivial⟩ : (∀ p, run spec_l2Before_x (subc [1, 0, 1, 0, 0] c113) (.seq .nil (.seq (.seq (.draw [(0, .flo), (1, .flo), (2, .flo), (3, .flo), (4, .flo), (5, .flo), (6, .flo), (7, .flo), (8, .flo)]) (.seq (.seq (.draw [(0, .flo), (1, .flo), (2, .flo), (3, .flo), (4, .flo), (5, .flo), (6, .flo), (7, .flo), (8, .flo), (9, .flo)]) .nil) .nil)) .nil)) (spec_l2Before_J0.S p) (leaf spec_l2Before_J0 spec_l2Before_O0) = spec_l2Before_B0 p) ∧ True), by kernel_rfl, fun x y => by kernel_rfl⟩
theorem spec_l2Before_s : spec_l2Before_D.Says Try.prog := spec_l2Before_w.says follows tabOk spec_l2State_e_ok
noncomputable def spec_l2Before_e : Env := more spec_l2State_e spec_l2Before_D
theorem spec_l2Before_e_ok : EnvOk Try.prog spec_l2Before_e := more_ok spec_l2State_e_ok spec_l2Before_s
/-! loop.example/g01128/spec.l2Edge -/
abbrev spec_l2Edge_E : Ve.End := ⟨[⟨4, .shr, .bool, none⟩], []⟩
abbrev spec_l2Edge_a : List ASh := [.val (.prod I I), .val (.prod I I)]
abbrev spec_l2Edge_o : List OSh := []
noncomputable def spec_l2Edge : argP spec_l2Edge_a → obP (extObs 0 spec_l2Edge_o) → Option spec_l2Edge_E.P
  | (a, b, ()), () => bif (decide (a.1 < b.1)) then (some ((true, ()), ())) else (bif (a.1 == b.1) then (some (((decide (a.2 < b.2)), ()), ())) else (some ((false, ()), ())))
noncomputable def spec_l2Edge_x : Cx := ⟨tab, spec_l2Before_e, fun _ _ => 0, fun _ => false, [], [(2, 0), (3, 0)]⟩
noncomputable def c128 : Code := bodyOf Try.f128
noncomputable def spec_l2Edge_A : Ann := .nil
noncomputable def spec_l2Edge_D : Ve.Fn := ⟨128, spec_l2Edge_a, spec_l2Edge_o, spec_l2Edge_E, spec_l2Edge⟩
theorem spec_l2Edge_w : Walk Try.prog spec_l2Edge_x spec_l2Edge_D Try.f128 c128 24 spec_l2Edge_A :=
  ⟨⟨Try.func128, by kernel_rfl, by kernel_rfl, by kernel_rfl, by decide, by kernel_rfl, Nat.le_of_ble_eq_true (by kernel_rfl)⟩, by kernel_rfl, by kernel_rfl, by kernel_rfl, kcast (by kernel_rfl) trivial, by kernel_rfl, fun x y => by kernel_rfl⟩
theorem spec_l2Edge_s : spec_l2Edge_D.Says Try.prog := spec_l2Edge_w.says follows tabOk spec_l2Before_e_ok
noncomputable def spec_l2Edge_e : Env := more spec_l2Before_e spec_l2Edge_D
theorem spec_l2Edge_e_ok : EnvOk Try.prog spec_l2Edge_e := more_ok spec_l2Before_e_ok spec_l2Edge_s
/-! loop.example/g01128/spec.l2Pairs -/
abbrev spec_l2Pairs_J0 : Tpl := ⟨[(0, .val (.list (.prod I I))), (1, .val I), (5, .val I)], [], []⟩
abbrev spec_l2Pairs_J1 : Tpl := ⟨[(4, .val .bool)], [], []⟩
abbrev spec_l2Pairs_J2 : Tpl := ⟨[], [], []⟩
abbrev spec_l2Pairs_E : Ve.End := ⟨[⟨4, .shr, .bool, none⟩], []⟩
abbrev spec_l2Pairs_a : List ASh := [.val (.list (.prod I I)), .val I]
abbrev spec_l2Pairs_o : List OSh := []
abbrev spec_l2Pairs_O0 : Out := .or .ret spec_l2Pairs_J1 (.one (.ex 0) spec_l2Pairs_J2)
noncomputable def spec_l2Pairs_B0 : spec_l2Pairs_J0.P → Option (spec_l2Pairs_J0.P ⊕ spec_l2Pairs_O0.P)
  | ((pairs, n, i, ()), ()) => bif (decide (i < (List.length pairs : Int))) then (guardB (inb i (List.length pairs)) (match spec_l1In ((List.getD pairs (Int.toNat i) ((0 : Int), (0 : Int))).1, (0 : Int), (w64 (n - (1 : Int))), ()) () with | some ((r, ()), ()) => (bif (!r) then (some (.inr (.inl ((false, ()), ())))) else (match spec_l1In ((List.getD pairs (Int.toNat i) ((0 : Int), (0 : Int))).2, (0 : Int), (w64 (n - (1 : Int))), ()) () with | some ((r2, ()), ()) => (bif (!r2) then (some (.inr (.inl ((false, ()), ())))) else (bif (decide (((List.getD pairs (Int.toNat i) ((0 : Int), (0 : Int))).2) ≤ ((List.getD pairs (Int.toNat i) ((0 : Int), (0 : Int))).1))) then (some (.inr (.inl ((false, ()), ())))) else (bif (decide ((0 : Int) < i)) then (guardB (inb (w64 (i - (1 : Int))) (List.length pairs)) (match spec_l2Edge ((List.getD pairs (Int.toNat (w64 (i - (1 : Int)))) ((0 : Int), (0 : Int))), (List.getD pairs (Int.toNat i) ((0 : Int), (0 : Int))), ()) () with | some ((r3, ()), ()) => (bif (!r3) then (some (.inr (.inl ((false, ()), ())))) else (some (.inl ((pairs, n, (w64 (i + (1 : Int))), ()), ())))) | none => none)) else (some (.inl ((pairs, n, (w64 (i + (1 : Int))), ()), ())))))) | none => none)) | none => none)) else (some (.inr (.inr ((), ()))))
noncomputable def spec_l2Pairs : argP spec_l2Pairs_a → obP (extObs 0 spec_l2Pairs_o) → Option spec_l2Pairs_E.P
  | (pairs, n, ()), () => match loopO spec_l2Pairs_B0 ((pairs, n, (0 : Int), ()), ()) with | some (.inl ((t4, ()), ())) => some ((t4, ()), ()) | some (.inr ((), ())) => some ((true, ()), ()) | none => none
noncomputable def spec_l2Pairs_x : Cx := ⟨tab, spec_l2Edge_e, fun _ _ => 0, fun _ => false, [(21, 0), (21, 1), (21, 2), (21, 3), (28, 0), (28, 1), (28, 2), (28, 3), (48, 0), (48, 1), (48, 2), (48, 3)], [(6, 0)]⟩
noncomputable def c114 : Code := bodyOf Try.f114
noncomputable def spec_l2Pairs_A : Ann := .seq .nil (.seq (.seq .nil (.loop spec_l2Pairs_J0 spec_l2Pairs_O0 spec_l2Pairs_B0 (.seq .nil (.seq (.seq .nil (.seq (.draw [(0, .flo), (1, .flo), (2, .flo), (3, .flo), (4, .sole), (5, .flo), (6, .flo), (7, .flo), (9, .flo), (10, .flo), (8, .qui), (11, .sole), (12, .flo), (13, .flo), (14, .flo), (15, .flo), (17, .flo), (16, .qui), (18, .qui), (19, .flo), (20, .flo), (21, .flo), (22, .flo), (23, .flo), (24, .flo), (25, .flo), (26, .flo), (27, .flo), (28, .flo), (29, .qui), (30, .qui), (31, .sole), (32, .flo), (33, .flo), (34, .flo)]) .nil)) .nil)))) .nil)
theorem spec_l2Pairs_r0 (p : spec_l2Pairs_J0.P) : run spec_l2Pairs_x (subc [1, 0, 1, 0, 0] c114) (.seq .nil (.seq (.seq .nil (.seq (.draw [(0, .flo), (1, .flo), (2, .flo), (3, .flo), (4, .sole), (5, .flo), (6, .flo), (7, .flo), (9, .flo), (10, .flo), (8, .qui), (11, .sole), (12, .flo), (13, .flo), (14, .flo), (15, .flo), (17, .flo), (16, .qui), (18, .qui), (19, .flo), (20, .flo), (21, .flo), (22, .flo), (23, .flo), (24, .flo), (25, .flo), (26, .flo), (27, .flo), (28, .flo), (29, .qui), (30, .qui), (31, .sole), (32, .flo), (33, .flo), (34, .flo)]) .nil)) .nil)) (spec_l2Pairs_J0.S p) (leaf spec_l2Pairs_J0 spec_l2Pairs_O0) = spec_l2Pairs_B0 p := by kernel_rfl
noncomputable def spec_l2Pairs_D : Ve.Fn := ⟨114, spec_l2Pairs_a, spec_l2Pairs_o, spec_l2Pairs_E, spec_l2Pairs⟩
theorem spec_l2Pairs_w : Walk Try.prog spec_l2Pairs_x spec_l2Pairs_D Try.f114 c114 52 spec_l2Pairs_A :=
  ⟨⟨Try.func114, by kernel_rfl, by kernel_rfl, by kernel_rfl, by decide, by kernel_rfl, Nat.le_of_ble_eq_true (by kernel_rfl)⟩, by kernel_rfl, by kernel_rfl, by kernel_rfl, kcast (by kernel_rfl) (⟨spec_l2Pairs_r0, trivial⟩ : (∀ p, run spec_l2Pairs_x (subc [1, 0, 1, 0, 0] c114) (.seq .nil (.seq (.seq .nil (.seq (.draw [(0, .flo), (1, .flo), (2, .flo), (3, .flo), (4, .sole), (5, .flo), (6, .flo), (7, .flo), (9, .flo), (10, .flo), (8, .qui), (11, .sole), (12, .flo), (13, .flo), (14, .flo), (15, .flo), (17, .flo), (16, .qui), (18, .qui), (19, .flo), (20, .flo), (21, .flo), (22, .flo), (23, .flo), (24, .flo), (25, .flo), (26, .flo), (27, .flo), (28, .flo), (29, .qui), (30, .qui), (31, .sole), (32, .flo), (33, .flo), (34, .flo)]) .nil)) .nil)) (spec_l2Pairs_J0.S p) (leaf spec_l2Pairs_J0 spec_l2Pairs_O0) = spec_l2Pairs_B0 p) ∧ True), by kernel_rfl, fun x y => by kernel_rfl⟩
theorem spec_l2Pairs_s : spec_l2Pairs_D.Says Try.prog := spec_l2Pairs_w.says follows tabOk spec_l2Edge_e_ok
noncomputable def spec_l2Pairs_e : Env := more spec_l2Edge_e spec_l2Pairs_D
theorem spec_l2Pairs_e_ok : EnvOk Try.prog spec_l2Pairs_e := more_ok spec_l2Edge_e_ok spec_l2Pairs_s
/-! loop.example/g01128/spec.l2Space -/
abbrev spec_l2Space_J0 : Tpl := ⟨[(1, .cst (.prod (.list (.list I)) (.list (.prod I I)))), (3, .val I)], [], []⟩
abbrev spec_l2Space_J1 : Tpl := ⟨[(2, .val .bool)], [], []⟩
abbrev spec_l2Space_J2 : Tpl := ⟨[(1, .cst (.prod (.list (.list I)) (.list (.prod I I))))], [], []⟩
abbrev spec_l2Space_E : Ve.End := ⟨[⟨2, .shr, .bool, none⟩], []⟩
abbrev spec_l2Space_a : List ASh := [.val (.prod (.list (.list I)) (.list (.prod I I)))]
abbrev spec_l2Space_o : List OSh := []
abbrev spec_l2Space_O0 : Out := .or .ret spec_l2Space_J1 (.one (.ex 0) spec_l2Space_J2)
noncomputable def spec_l2Space_B0 : spec_l2Space_J0.P → Option (spec_l2Space_J0.P ⊕ spec_l2Space_O0.P)
  | ((x, i, ()), ()) => bif (decide (i < (List.length x.1 : Int))) then (guardB (inb i (List.length x.1)) (match spec_l2State ((List.getD x.1 (Int.toNat i) ([] : (List Int))), ()) () with | some ((r, ()), ()) => (bif (!r) then (some (.inr (.inl ((false, ()), ())))) else (bif (decide ((0 : Int) < i)) then (guardB (inb (w64 (i - (1 : Int))) (List.length x.1)) (guardB (inb i (List.length x.1)) (match spec_l2Before ((List.getD x.1 (Int.toNat (w64 (i - (1 : Int)))) ([] : (List Int))), (List.getD x.1 (Int.toNat i) ([] : (List Int))), ()) () with | some ((r2, ()), ()) => (bif (!r2) then (some (.inr (.inl ((false, ()), ())))) else (some (.inl ((x, (w64 (i + (1 : Int))), ()), ())))) | none => none))) else (some (.inl ((x, (w64 (i + (1 : Int))), ()), ()))))) | none => none)) else (some (.inr (.inr ((x, ()), ()))))
noncomputable def spec_l2Space : argP spec_l2Space_a → obP (extObs 0 spec_l2Space_o) → Option spec_l2Space_E.P
  | (x, ()), () => bif (decide ((300 : Int) < (List.length x.1 : Int))) then (some ((false, ()), ())) else (bif (decide ((6000 : Int) < (List.length x.2 : Int))) then (some ((false, ()), ())) else (match loopO spec_l2Space_B0 ((x, (0 : Int), ()), ()) with | some (.inl ((t2, ()), ())) => some ((t2, ()), ()) | some (.inr ((x2, ()), ())) => (match spec_l2Pairs (x2.2, (List.length x2.1 : Int), ()) () with | some ((r, ()), ()) => some ((r, ()), ()) | none => none) | none => none))
noncomputable def spec_l2Space_x : Cx := ⟨tab, spec_l2Pairs_e, fun _ _ => 0, fun _ => false, [(26, 0), (26, 1), (26, 2), (26, 3), (43, 0), (43, 1), (43, 2), (43, 3), (52, 0), (52, 1), (52, 2), (52, 3)], [(1, 0)]⟩
noncomputable def c53 : Code := bodyOf Try.f53
noncomputable def spec_l2Space_A : Ann := .seq .nil (.seq .nil (.seq (.seq .nil (.loop spec_l2Space_J0 spec_l2Space_O0 spec_l2Space_B0 (.seq .nil (.seq (.seq (.draw [(0, .flo), (1, .flo), (2, .flo), (3, .flo), (4, .flo), (5, .sole), (6, .flo), (7, .flo), (8, .flo), (9, .flo), (10, .flo), (11, .flo), (13, .flo), (14, .flo), (17, .flo), (19, .flo), (12, .qui), (15, .flo), (16, .qui), (18, .qui), (20, .flo), (21, .qui), (22, .sole), (23, .flo), (24, .flo), (25, .flo)]) .nil) .nil)))) .nil))
theorem spec_l2Space_r0 (p : spec_l2Space_J0.P) : run spec_l2Space_x (subc [1, 1, 0, 1, 0, 0] c53) (.seq .nil (.seq (.seq (.draw [(0, .flo), (1, .flo), (2, .flo), (3, .flo), (4, .flo), (5, .sole), (6, .flo), (7, .flo), (8, .flo), (9, .flo), (10, .flo), (11, .flo), (13, .flo), (14, .flo), (17, .flo), (19, .flo), (12, .qui), (15, .flo), (16, .qui), (18, .qui), (20, .flo), (21, .qui), (22, .sole), (23, .flo), (24, .flo), (25, .flo)]) .nil) .nil)) (spec_l2Space_J0.S p) (leaf spec_l2Space_J0 spec_l2Space_O0) = spec_l2Space_B0 p := by kernel_rfl
noncomputable def spec_l2Space_D : Ve.Fn := ⟨53, spec_l2Space_a, spec_l2Space_o, spec_l2Space_E, spec_l2Space⟩
theorem spec_l2Space_w : Walk Try.prog spec_l2Space_x spec_l2Space_D Try.f53 c53 53 spec_l2Space_A :=
  ⟨⟨Try.func53, by kernel_rfl, by kernel_rfl, by kernel_rfl, by decide, by kernel_rfl, Nat.le_of_ble_eq_true (by kernel_rfl)⟩, by kernel_rfl, by kernel_rfl, by kernel_rfl, kcast (by kernel_rfl) (⟨spec_l2Space_r0, trivial⟩ : (∀ p, run spec_l2Space_x (subc [1, 1, 0, 1, 0, 0] c53) (.seq .nil (.seq (.seq (.draw [(0, .flo), (1, .flo), (2, .flo), (3, .flo), (4, .flo), (5, .sole), (6, .flo), (7, .flo), (8, .flo), (9, .flo), (10, .flo), (11, .flo), (13, .flo), (14, .flo), (17, .flo), (19, .flo), (12, .qui), (15, .flo), (16, .qui), (18, .qui), (20, .flo), (21, .qui), (22, .sole), (23, .flo), (24, .flo), (25, .flo)]) .nil) .nil)) (spec_l2Space_J0.S p) (leaf spec_l2Space_J0 spec_l2Space_O0) = spec_l2Space_B0 p) ∧ True), by kernel_rfl, fun x y => by kernel_rfl⟩
theorem spec_l2Space_s : spec_l2Space_D.Says Try.prog := spec_l2Space_w.says follows tabOk spec_l2Pairs_e_ok
noncomputable def spec_l2Space_e : Env := more spec_l2Pairs_e spec_l2Space_D
theorem spec_l2Space_e_ok : EnvOk Try.prog spec_l2Space_e := more_ok spec_l2Pairs_e_ok spec_l2Space_s
/-! loop.example/g01128/spec.l11Numbers -/
abbrev spec_l11Numbers_J0 : Tpl := ⟨[(0, .val (.list I)), (1, .val I), (5, .val I)], [], []⟩
abbrev spec_l11Numbers_J1 : Tpl := ⟨[(4, .val .bool)], [], []⟩
abbrev spec_l11Numbers_J2 : Tpl := ⟨[(0, .val (.list I)), (1, .val I)], [], []⟩
abbrev spec_l11Numbers_E : Ve.End := ⟨[⟨4, .shr, .bool, none⟩], []⟩
abbrev spec_l11Numbers_a : List ASh := [.val (.list I), .val I]
abbrev spec_l11Numbers_o : List OSh := []
abbrev spec_l11Numbers_O0 : Out := .or .ret spec_l11Numbers_J1 (.one (.ex 0) spec_l11Numbers_J2)
noncomputable def spec_l11Numbers_B0 : spec_l11Numbers_J0.P → Option (spec_l11Numbers_J0.P ⊕ spec_l11Numbers_O0.P)
  | ((list, n, i, ()), ()) => bif (decide (i < (List.length list : Int))) then (guardB (inb i (List.length list)) (match spec_l1In ((List.getD list (Int.toNat i) (0 : Int)), (0 : Int), (999 : Int), ()) () with | some ((r, ()), ()) => (bif (!r) then (some (.inr (.inl ((false, ()), ())))) else (some (.inl ((list, n, (w64 (i + (1 : Int))), ()), ())))) | none => none)) else (some (.inr (.inr ((list, n, ()), ()))))
noncomputable def spec_l11Numbers : argP spec_l11Numbers_a → obP (extObs 0 spec_l11Numbers_o) → Option spec_l11Numbers_E.P
  | (list, n, ()), () => match loopO spec_l11Numbers_B0 ((list, n, (0 : Int), ()), ()) with | some (.inl ((t4, ()), ())) => some ((t4, ()), ()) | some (.inr ((list2, n2, ()), ())) => some ((((List.length list2 : Int) == n2), ()), ()) | none => none
noncomputable def spec_l11Numbers_x : Cx := ⟨tab, spec_l2Space_e, fun _ _ => 0, fun _ => false, [(16, 0), (16, 1), (16, 2), (16, 3)], []⟩
noncomputable def c127 : Code := bodyOf Try.f127
noncomputable def spec_l11Numbers_A : Ann := .seq .nil (.seq (.seq .nil (.loop spec_l11Numbers_J0 spec_l11Numbers_O0 spec_l11Numbers_B0 .nil)) .nil)
theorem spec_l11Numbers_r0 (p : spec_l11Numbers_J0.P) : run spec_l11Numbers_x (subc [1, 0, 1, 0, 0] c127) .nil (spec_l11Numbers_J0.S p) (leaf spec_l11Numbers_J0 spec_l11Numbers_O0) = spec_l11Numbers_B0 p := by kernel_rfl
noncomputable def spec_l11Numbers_D : Ve.Fn := ⟨127, spec_l11Numbers_a, spec_l11Numbers_o, spec_l11Numbers_E, spec_l11Numbers⟩
theorem spec_l11Numbers_w : Walk Try.prog spec_l11Numbers_x spec_l11Numbers_D Try.f127 c127 22 spec_l11Numbers_A :=
  ⟨⟨Try.func127, by kernel_rfl, by kernel_rfl, by kernel_rfl, by decide, by kernel_rfl, Nat.le_of_ble_eq_true (by kernel_rfl)⟩, by kernel_rfl, by kernel_rfl, by kernel_rfl, kcast (by kernel_rfl) (⟨spec_l11Numbers_r0, trivial⟩ : (∀ p, run spec_l11Numbers_x (subc [1, 0, 1, 0, 0] c127) .nil (spec_l11Numbers_J0.S p) (leaf spec_l11Numbers_J0 spec_l11Numbers_O0) = spec_l11Numbers_B0 p) ∧ True), by kernel_rfl, fun x y => by kernel_rfl⟩
theorem spec_l11Numbers_s : spec_l11Numbers_D.Says Try.prog := spec_l11Numbers_w.says follows tabOk spec_l2Space_e_ok
noncomputable def spec_l11Numbers_e : Env := more spec_l2Space_e spec_l11Numbers_D
theorem spec_l11Numbers_e_ok : EnvOk Try.prog spec_l11Numbers_e := more_ok spec_l2Space_e_ok spec_l11Numbers_s
/-! loop.example/g01128/spec.l11Heights -/
abbrev spec_l11Heights_E : Ve.End := ⟨[⟨4, .shr, .bool, none⟩], []⟩
abbrev spec_l11Heights_a : List ASh := [.val (.prod (.list (.list I)) (.list (.prod I I))), .val (.list I)]
abbrev spec_l11Heights_o : List OSh := []
noncomputable def spec_l11Heights : argP spec_l11Heights_a → obP (extObs 0 spec_l11Heights_o) → Option spec_l11Heights_E.P
  | (x, heights, ()), () => match spec_l2Space (x, ()) () with | some ((r, ()), ()) => (bif r then (match spec_l11Numbers (heights, (List.length x.1 : Int), ()) () with | some ((r2, ()), ()) => some ((r2, ()), ()) | none => none) else (some ((false, ()), ()))) | none => none
noncomputable def spec_l11Heights_x : Cx := ⟨tab, spec_l11Numbers_e, fun _ _ => 0, fun _ => false, [(6, 0), (6, 1), (6, 2), (6, 3), (12, 0), (12, 1), (12, 2), (12, 3)], [(2, 0)]⟩
noncomputable def c98 : Code := bodyOf Try.f98
noncomputable def spec_l11Heights_A : Ann := .nil
noncomputable def spec_l11Heights_D : Ve.Fn := ⟨98, spec_l11Heights_a, spec_l11Heights_o, spec_l11Heights_E, spec_l11Heights⟩
theorem spec_l11Heights_w : Walk Try.prog spec_l11Heights_x spec_l11Heights_D Try.f98 c98 14 spec_l11Heights_A :=
  ⟨⟨Try.func98, by kernel_rfl, by kernel_rfl, by kernel_rfl, by decide, by kernel_rfl, Nat.le_of_ble_eq_true (by kernel_rfl)⟩, by kernel_rfl, by kernel_rfl, by kernel_rfl, kcast (by kernel_rfl) trivial, by kernel_rfl, fun x y => by kernel_rfl⟩
theorem spec_l11Heights_s : spec_l11Heights_D.Says Try.prog := spec_l11Heights_w.says follows tabOk spec_l11Numbers_e_ok
noncomputable def spec_l11Heights_e : Env := more spec_l11Numbers_e spec_l11Heights_D
theorem spec_l11Heights_e_ok : EnvOk Try.prog spec_l11Heights_e := more_ok spec_l11Numbers_e_ok spec_l11Heights_s
/-! loop.example/g01128/spec.l2Place -/
abbrev spec_l2Place_E : Ve.End := ⟨[⟨4, .shr, .bool, none⟩], []⟩
abbrev spec_l2Place_a : List ASh := [.val (.prod (.list (.list I)) (.list (.prod I I))), .val I]
abbrev spec_l2Place_o : List OSh := []
noncomputable def spec_l2Place : argP spec_l2Place_a → obP (extObs 0 spec_l2Place_o) → Option spec_l2Place_E.P
  | (x, i, ()), () => match spec_l2Space (x, ()) () with | some ((r, ()), ()) => (bif r then (match spec_l1In (i, (0 : Int), (w64 ((List.length x.1 : Int) - (1 : Int))), ()) () with | some ((r2, ()), ()) => some ((r2, ()), ()) | none => none) else (some ((false, ()), ()))) | none => none
noncomputable def spec_l2Place_x : Cx := ⟨tab, spec_l11Heights_e, fun _ _ => 0, fun _ => false, [(6, 0), (6, 1), (6, 2), (6, 3), (13, 0), (13, 1), (13, 2), (13, 3)], [(2, 0)]⟩
noncomputable def c71 : Code := bodyOf Try.f71
noncomputable def spec_l2Place_A : Ann := .nil
noncomputable def spec_l2Place_D : Ve.Fn := ⟨71, spec_l2Place_a, spec_l2Place_o, spec_l2Place_E, spec_l2Place⟩
theorem spec_l2Place_w : Walk Try.prog spec_l2Place_x spec_l2Place_D Try.f71 c71 15 spec_l2Place_A :=
  ⟨⟨Try.func71, by kernel_rfl, by kernel_rfl, by kernel_rfl, by decide, by kernel_rfl, Nat.le_of_ble_eq_true (by kernel_rfl)⟩, by kernel_rfl, by kernel_rfl, by kernel_rfl, kcast (by kernel_rfl) trivial, by kernel_rfl, fun x y => by kernel_rfl⟩
theorem spec_l2Place_s : spec_l2Place_D.Says Try.prog := spec_l2Place_w.says follows tabOk spec_l11Heights_e_ok
noncomputable def spec_l2Place_e : Env := more spec_l11Heights_e spec_l2Place_D
theorem spec_l2Place_e_ok : EnvOk Try.prog spec_l2Place_e := more_ok spec_l11Heights_e_ok spec_l2Place_s
/-! loop.example/g01128/spec.l2Lists -/
abbrev spec_l2Lists_J0 : Tpl := ⟨[(1, .cst (.prod (.list (.list I)) (.list (.prod I I)))), (3, .own (.own .shr) (.list I)), (4, .val I)], [], []⟩
abbrev spec_l2Lists_J1 : Tpl := ⟨[(1, .cst (.prod (.list (.list I)) (.list (.prod I I)))), (3, .own (.own .shr) (.list I))], [], []⟩
abbrev spec_l2Lists_J2 : Tpl := ⟨[(1, .cst (.prod (.list (.list I)) (.list (.prod I I)))), (3, .own (.own .shr) (.list I)), (7, .val I)], [], []⟩
abbrev spec_l2Lists_J3 : Tpl := ⟨[(3, .own (.own .shr) (.list I))], [], []⟩
abbrev spec_l2Lists_E : Ve.End := ⟨[⟨2, (.own (.own .shr)), (.list (.list I)), none⟩], []⟩
abbrev spec_l2Lists_a : List ASh := [.val (.prod (.list (.list I)) (.list (.prod I I)))]
abbrev spec_l2Lists_o : List OSh := []
abbrev spec_l2Lists_O0 : Out := .one (.ex 0) spec_l2Lists_J1
noncomputable def spec_l2Lists_B0 : spec_l2Lists_J0.P → Option (spec_l2Lists_J0.P ⊕ spec_l2Lists_O0.P)
  | ((t1, t3, t4, ()), ()) => bif (decide (t4 < (List.length t1.2 : Int))) then (guardB (inb t4 (List.length t1.2)) (guardB (inb t4 (List.length t1.2)) (guardB (inb ((List.getD t1.2 (Int.toNat t4) ((0 : Int), (0 : Int))).2) (List.length t3)) (guardB (decide ((List.length (List.getD t3 (Int.toNat ((List.getD t1.2 (Int.toNat t4) ((0 : Int), (0 : Int))).2)) ([] : (List Int))) + List.length [(List.getD t1.2 (Int.toNat t4) ((0 : Int), (0 : Int))).1]) * 8 ≤ 70368744177664)) (guardB (inb ((List.getD t1.2 (Int.toNat t4) ((0 : Int), (0 : Int))).2) (List.length t3)) (guardB (Nat.beq (Int.toNat ((List.getD t1.2 (Int.toNat t4) ((0 : Int), (0 : Int))).2)) (Int.toNat ((List.getD t1.2 (Int.toNat t4) ((0 : Int), (0 : Int))).2)) && true) (some (.inl ((t1, (List.set t3 (Int.toNat ((List.getD t1.2 (Int.toNat t4) ((0 : Int), (0 : Int))).2)) ((List.getD t3 (Int.toNat ((List.getD t1.2 (Int.toNat t4) ((0 : Int), (0 : Int))).2)) ([] : (List Int))) ++ [(List.getD t1.2 (Int.toNat t4) ((0 : Int), (0 : Int))).1])), (w64 (t4 + (1 : Int))), ()), ()))))))))) else (some (.inr ((t1, t3, ()), ())))
abbrev spec_l2Lists_O1 : Out := .one (.ex 2) spec_l2Lists_J3
noncomputable def spec_l2Lists_B1 : spec_l2Lists_J2.P → Option (spec_l2Lists_J2.P ⊕ spec_l2Lists_O1.P)
  | ((t1, t3, t7, ()), ()) => bif (decide (t7 < (List.length t1.2 : Int))) then (guardB (inb t7 (List.length t1.2)) (guardB (inb t7 (List.length t1.2)) (guardB (inb ((List.getD t1.2 (Int.toNat t7) ((0 : Int), (0 : Int))).1) (List.length t3)) (guardB (decide ((List.length (List.getD t3 (Int.toNat ((List.getD t1.2 (Int.toNat t7) ((0 : Int), (0 : Int))).1)) ([] : (List Int))) + List.length [(List.getD t1.2 (Int.toNat t7) ((0 : Int), (0 : Int))).2]) * 8 ≤ 70368744177664)) (guardB (inb ((List.getD t1.2 (Int.toNat t7) ((0 : Int), (0 : Int))).1) (List.length t3)) (guardB (Nat.beq (Int.toNat ((List.getD t1.2 (Int.toNat t7) ((0 : Int), (0 : Int))).1)) (Int.toNat ((List.getD t1.2 (Int.toNat t7) ((0 : Int), (0 : Int))).1)) && true) (some (.inl ((t1, (List.set t3 (Int.toNat ((List.getD t1.2 (Int.toNat t7) ((0 : Int), (0 : Int))).1)) ((List.getD t3 (Int.toNat ((List.getD t1.2 (Int.toNat t7) ((0 : Int), (0 : Int))).1)) ([] : (List Int))) ++ [(List.getD t1.2 (Int.toNat t7) ((0 : Int), (0 : Int))).2])), (w64 (t7 + (1 : Int))), ()), ()))))))))) else (some (.inr ((t3, ()), ())))
noncomputable def spec_l2Lists : argP spec_l2Lists_a → obP (extObs 0 spec_l2Lists_o) → Option spec_l2Lists_E.P
  | (t0, ()), () => guardB (decide (0 ≤ (List.length t0.1 : Int)) && decide ((List.length t0.1 : Int) ≤ (List.length t0.1 : Int)) && decide ((List.length t0.1 : Int) * 24 ≤ 140737488355328)) (match loopO spec_l2Lists_B0 ((t0, (List.replicate (Int.toNat (List.length t0.1 : Int)) ([] : (List Int))), (0 : Int), ()), ()) with | some ((t1, t3, ()), ()) => (match loopO spec_l2Lists_B1 ((t1, t3, (0 : Int), ()), ()) with | some ((t3_2, ()), ()) => some ((t3_2, ()), ()) | none => none) | none => none)
noncomputable def spec_l2Lists_x : Cx := ⟨tab, spec_l2Place_e, fun _ _ => 0, fun _ => false, [(40, 0), (69, 0)], [(1, 0)]⟩
noncomputable def c60 : Code := bodyOf Try.f60
noncomputable def spec_l2Lists_A : Ann := .seq .nil (.seq .nil (.seq (.seq .nil (.loop spec_l2Lists_J0 spec_l2Lists_O0 spec_l2Lists_B0 (.seq .nil (.seq (.seq (.draw [(0, .flo), (1, .flo), (2, .flo), (3, .flo), (4, .flo), (5, .flo), (6, .flo), (7, .flo), (8, .flo), (9, .flo), (10, .flo), (11, .flo), (12, .flo), (13, .flo)]) .nil) .nil)))) (.seq (.seq .nil (.loop spec_l2Lists_J2 spec_l2Lists_O1 spec_l2Lists_B1 (.seq .nil (.seq (.seq (.draw [(0, .flo), (1, .flo), (2, .flo), (3, .flo), (4, .flo), (5, .flo), (6, .flo), (7, .flo), (8, .flo), (9, .flo), (10, .flo), (11, .flo), (12, .flo), (13, .flo)]) .nil) .nil)))) .nil)))
theorem spec_l2Lists_r0 (p : spec_l2Lists_J0.P) : run spec_l2Lists_x (subc [1, 1, 0, 1, 0, 0] c60) (.seq .nil (.seq (.seq (.draw [(0, .flo), (1, .flo), (2, .flo), (3, .flo), (4, .flo), (5, .flo), (6, .flo), (7, .flo), (8, .flo), (9, .flo), (10, .flo), (11, .flo), (12, .flo), (13, .flo)]) .nil) .nil)) (spec_l2Lists_J0.S p) (leaf spec_l2Lists_J0 spec_l2Lists_O0) = spec_l2Lists_B0 p := by kernel_rfl
theorem spec_l2Lists_r1 (p : spec_l2Lists_J2.P) : run spec_l2Lists_x (subc [1, 1, 1, 0, 1, 0, 0] c60) (.seq .nil (.seq (.seq (.draw [(0, .flo), (1, .flo), (2, .flo), (3, .flo), (4, .flo), (5, .flo), (6, .flo), (7, .flo), (8, .flo), (9, .flo), (10, .flo), (11, .flo), (12, .flo), (13, .flo)]) .nil) .nil)) (spec_l2Lists_J2.S p) (leaf spec_l2Lists_J2 spec_l2Lists_O1) = spec_l2Lists_B1 p := by kernel_rfl
noncomputable def spec_l2Lists_D : Ve.Fn := ⟨60, spec_l2Lists_a, spec_l2Lists_o, spec_l2Lists_E, spec_l2Lists⟩
theorem spec_l2Lists_w : Walk Try.prog spec_l2Lists_x spec_l2Lists_D Try.f60 c60 73 spec_l2Lists_A :=
  ⟨⟨Try.func60, by kernel_rfl, by kernel_rfl, by kernel_rfl, by decide, by kernel_rfl, Nat.le_of_ble_eq_true (by kernel_rfl)⟩, by kernel_rfl, by kernel_rfl, by kernel_rfl, kcast (by kernel_rfl) (⟨spec_l2Lists_r0, spec_l2Lists_r1, trivial⟩ : (∀ p, run spec_l2Lists_x (subc [1, 1, 0, 1, 0, 0] c60) (.seq .nil (.seq (.seq (.draw [(0, .flo), (1, .flo), (2, .flo), (3, .flo), (4, .flo), (5, .flo), (6, .flo), (7, .flo), (8, .flo), (9, .flo), (10, .flo), (11, .flo), (12, .flo), (13, .flo)]) .nil) .nil)) (spec_l2Lists_J0.S p) (leaf spec_l2Lists_J0 spec_l2Lists_O0) = spec_l2Lists_B0 p) ∧ (∀ p, run spec_l2Lists_x (subc [1, 1, 1, 0, 1, 0, 0] c60) (.seq .nil (.seq (.seq (.draw [(0, .flo), (1, .flo), (2, .flo), (3, .flo), (4, .flo), (5, .flo), (6, .flo), (7, .flo), (8, .flo), (9, .flo), (10, .flo), (11, .flo), (12, .flo), (13, .flo)]) .nil) .nil)) (spec_l2Lists_J2.S p) (leaf spec_l2Lists_J2 spec_l2Lists_O1) = spec_l2Lists_B1 p) ∧ True), by kernel_rfl, fun x y => by kernel_rfl⟩
theorem spec_l2Lists_s : spec_l2Lists_D.Says Try.prog := spec_l2Lists_w.says follows tabOk spec_l2Place_e_ok
noncomputable def spec_l2Lists_e : Env := more spec_l2Place_e spec_l2Lists_D
theorem spec_l2Lists_e_ok : EnvOk Try.prog spec_l2Lists_e := more_ok spec_l2Place_e_ok spec_l2Lists_s
/-! loop.example/g01128/spec.l2Spread -/
abbrev spec_l2Spread_J0 : Tpl := ⟨[(0, .val (.list (.list I))), (1, .val I), (5, .own .shr I), (6, .val I)], [], []⟩
abbrev spec_l2Spread_J1 : Tpl := ⟨[(0, .val (.list (.list I))), (1, .val I), (5, .own .shr I)], [], []⟩
abbrev spec_l2Spread_J2 : Tpl := ⟨[(0, .val (.list (.list I))), (5, .own .shr I), (7, .own .shr I), (8, .val I), (9, .val (.list I)), (10, .val I)], [], []⟩
abbrev spec_l2Spread_J3 : Tpl := ⟨[(0, .val (.list (.list I))), (5, .own .shr I), (7, .own .shr I), (8, .val I)], [], []⟩
abbrev spec_l2Spread_J4 : Tpl := ⟨[(5, .own .shr I)], [], []⟩
abbrev spec_l2Spread_E : Ve.End := ⟨[⟨4, (.own .shr), (.list I), none⟩], []⟩
abbrev spec_l2Spread_a : List ASh := [.val (.list (.list I)), .val I]
abbrev spec_l2Spread_o : List OSh := []
abbrev spec_l2Spread_O0 : Out := .one (.ex 0) spec_l2Spread_J1
noncomputable def spec_l2Spread_B0 : spec_l2Spread_J0.P → Option (spec_l2Spread_J0.P ⊕ spec_l2Spread_O0.P)
  | ((t0, t1, t5, t6, ()), ()) => bif (decide (t6 < (List.length t5 : Int))) then (guardB (inb t6 (List.length t5)) (some (.inl ((t0, t1, (List.set t5 (Int.toNat t6) (-1 : Int)), (w64 (t6 + (1 : Int))), ()), ())))) else (some (.inr ((t0, t1, t5, ()), ())))
abbrev spec_l2Spread_O1 : Out := .one (.ex 4) spec_l2Spread_J3
noncomputable def spec_l2Spread_B1 : spec_l2Spread_J2.P → Option (spec_l2Spread_J2.P ⊕ spec_l2Spread_O1.P)
  | ((t0, t5, t7, t8, t9, t10, ()), ()) => bif (decide (t10 < (List.length t9 : Int))) then (guardB (inb t10 (List.length t9)) (guardB (inb (List.getD t9 (Int.toNat t10) (0 : Int)) (List.length t5)) (bif (decide ((List.getD t5 (Int.toNat (List.getD t9 (Int.toNat t10) (0 : Int))) (0 : Int)) < (0 : Int))) then (guardB (inb t10 (List.length t9)) (guardB (inb t8 (List.length t7)) (guardB (inb (List.getD t7 (Int.toNat t8) (0 : Int)) (List.length t5)) (guardB (inb (List.getD t9 (Int.toNat t10) (0 : Int)) (List.length t5)) (guardB (inb t10 (List.length t9)) (guardB (decide ((List.length t7 + List.length [(List.getD t9 (Int.toNat t10) (0 : Int))]) * 8 ≤ 70368744177664)) (some (.inl ((t0, (List.set t5 (Int.toNat (List.getD t9 (Int.toNat t10) (0 : Int))) (w64 ((List.getD t5 (Int.toNat (List.getD t7 (Int.toNat t8) (0 : Int))) (0 : Int)) + (1 : Int)))), (t7 ++ [(List.getD t9 (Int.toNat t10) (0 : Int))]), t8, t9, (w64 (t10 + (1 : Int))), ()), ()))))))))) else (some (.inl ((t0, t5, t7, t8, t9, (w64 (t10 + (1 : Int))), ()), ())))))) else (some (.inr ((t0, t5, t7, t8, ()), ())))
abbrev spec_l2Spread_O2 : Out := .one (.ex 2) spec_l2Spread_J4
noncomputable def spec_l2Spread_B2 : spec_l2Spread_J3.P → Option (spec_l2Spread_J3.P ⊕ spec_l2Spread_O2.P)
  | ((t0, t5, t7, t8, ()), ()) => bif (decide (t8 < (List.length t7 : Int))) then (guardB (inb t8 (List.length t7)) (guardB (inb (List.getD t7 (Int.toNat t8) (0 : Int)) (List.length t0)) (match loopO spec_l2Spread_B1 ((t0, t5, t7, t8, (List.getD t0 (Int.toNat (List.getD t7 (Int.toNat t8) (0 : Int))) ([] : (List Int))), (0 : Int), ()), ()) with | some ((t0_2, t5_2, t7_2, t8_2, ()), ()) => some (.inl ((t0_2, t5_2, t7_2, (w64 (t8_2 + (1 : Int))), ()), ())) | none => none))) else (some (.inr ((t5, ()), ())))
noncomputable def spec_l2Spread : argP spec_l2Spread_a → obP (extObs 0 spec_l2Spread_o) → Option spec_l2Spread_E.P
  | (t0, t1, ()), () => guardB (decide (0 ≤ (List.length t0 : Int)) && decide ((List.length t0 : Int) ≤ (List.length t0 : Int)) && decide ((List.length t0 : Int) * 8 ≤ 140737488355328)) (match loopO spec_l2Spread_B0 ((t0, t1, (List.replicate (Int.toNat (List.length t0 : Int)) (0 : Int)), (0 : Int), ()), ()) with | some ((t0_2, t1_2, t5, ()), ()) => guardB (inb t1_2 (List.length t5)) (match loopO spec_l2Spread_B2 ((t0_2, (List.set t5 (Int.toNat t1_2) (0 : Int)), [t1_2], (0 : Int), ()), ()) with | some ((t5_2, ()), ()) => some ((t5_2, ()), ()) | none => none) | none => none)
noncomputable def spec_l2Spread_x : Cx := ⟨tab, spec_l2Lists_e, fun _ _ => 0, fun _ => false, [(9, 0), (74, 0)], []⟩
noncomputable def c78 : Code := bodyOf Try.f78
noncomputable def spec_l2Spread_A : Ann := .seq .nil (.seq .nil (.seq (.seq .nil (.loop spec_l2Spread_J0 spec_l2Spread_O0 spec_l2Spread_B0 .nil)) (.seq .nil (.seq .nil (.seq (.seq .nil (.loop spec_l2Spread_J3 spec_l2Spread_O2 spec_l2Spread_B2 (.seq .nil (.seq (.seq .nil (.seq .nil (.loop spec_l2Spread_J2 spec_l2Spread_O1 spec_l2Spread_B1 (.seq .nil (.seq (.seq .nil (.seq (.seq (.draw [(0, .flo), (1, .flo), (2, .flo), (3, .flo), (4, .flo), (5, .flo), (6, .flo), (7, .flo), (8, .flo), (9, .qui), (10, .flo), (11, .qui), (12, .flo), (13, .flo), (14, .sole)]) .nil) .nil)) .nil))))) .nil)))) .nil)))))
theorem spec_l2Spread_r0 (p : spec_l2Spread_J0.P) : run spec_l2Spread_x (subc [1, 1, 0, 1, 0, 0] c78) .nil (spec_l2Spread_J0.S p) (leaf spec_l2Spread_J0 spec_l2Spread_O0) = spec_l2Spread_B0 p := by kernel_rfl
theorem spec_l2Spread_r1 (p : spec_l2Spread_J3.P) : run spec_l2Spread_x (subc [1, 1, 1, 1, 1, 0, 1, 0, 0] c78) (.seq .nil (.seq (.seq .nil (.seq .nil (.loop spec_l2Spread_J2 spec_l2Spread_O1 spec_l2Spread_B1 (.seq .nil (.seq (.seq .nil (.seq (.seq (.draw [(0, .flo), (1, .flo), (2, .flo), (3, .flo), (4, .flo), (5, .flo), (6, .flo), (7, .flo), (8, .flo), (9, .qui), (10, .flo), (11, .qui), (12, .flo), (13, .flo), (14, .sole)]) .nil) .nil)) .nil))))) .nil)) (spec_l2Spread_J3.S p) (leaf spec_l2Spread_J3 spec_l2Spread_O2) = spec_l2Spread_B2 p := by kernel_rfl
theorem spec_l2Spread_r2 (p : spec_l2Spread_J2.P) : run spec_l2Spread_x (subc [1, 1, 1, 1, 1, 0, 1, 0, 0, 1, 0, 0, 1, 1, 0, 0] c78) (.seq .nil (.seq (.seq .nil (.seq (.seq (.draw [(0, .flo), (1, .flo), (2, .flo), (3, .flo), (4, .flo), (5, .flo), (6, .flo), (7, .flo), (8, .flo), (9, .qui), (10, .flo), (11, .qui), (12, .flo), (13, .flo), (14, .sole)]) .nil) .nil)) .nil)) (spec_l2Spread_J2.S p) (leaf spec_l2Spread_J2 spec_l2Spread_O1) = spec_l2Spread_B1 p := by kernel_rfl
noncomputable def spec_l2Spread_D : Ve.Fn := ⟨78, spec_l2Spread_a, spec_l2Spread_o, spec_l2Spread_E, spec_l2Spread⟩
theorem spec_l2Spread_w : Walk Try.prog spec_l2Spread_x spec_l2Spread_D Try.f78 c78 77 spec_l2Spread_A :=
  ⟨⟨Try.func78, by kernel_rfl, by kernel_rfl, by kernel_rfl, by decide, by kernel_rfl, Nat.le_of_ble_eq_true (by kernel_rfl)⟩, by kernel_rfl, by kernel_rfl, by kernel_rfl, kcast (by kernel_rfl) (⟨spec_l2Spread_r0, spec_l2Spread_r1, spec_l2Spread_r2, trivial⟩ : (∀ p, run spec_l2Spread_x (subc [1, 1, 0, 1, 0, 0] c78) .nil (spec_l2Spread_J0.S p) (leaf spec_l2Spread_J0 spec_l2Spread_O0) = spec_l2Spread_B0 p) ∧ (∀ p, run spec_l2Spread_x (subc [1, 1, 1, 1, 1, 0, 1, 0, 0] c78) (.seq .nil (.seq (.seq .nil (.seq .nil (.loop spec_l2Spread_J2 spec_l2Spread_O1 spec_l2Spread_B1 (.seq .nil (.seq (.seq .nil (.seq (.seq (.draw [(0, .flo), (1, .flo), (2, .flo), (3, .flo), (4, .flo), (5, .flo), (6, .flo), (7, .flo), (8, .flo), (9, .qui), (10, .flo), (11, .qui), (12, .flo), (13, .flo), (14, .sole)]) .nil) .nil)) .nil))))) .nil)) (spec_l2Spread_J3.S p) (leaf spec_l2Spread_J3 spec_l2Spread_O2) = spec_l2Spread_B2 p) ∧ (∀ p, run spec_l2Spread_x (subc [1, 1, 1, 1, 1, 0, 1, 0, 0, 1, 0, 0, 1, 1, 0, 0] c78) (.seq .nil (.seq (.seq .nil (.seq (.seq (.draw [(0, .flo), (1, .flo), (2, .flo), (3, .flo), (4, .flo), (5, .flo), (6, .flo), (7, .flo), (8, .flo), (9, .qui), (10, .flo), (11, .qui), (12, .flo), (13, .flo), (14, .sole)]) .nil) .nil)) .nil)) (spec_l2Spread_J2.S p) (leaf spec_l2Spread_J2 spec_l2Spread_O1) = spec_l2Spread_B1 p) ∧ True), by kernel_rfl, fun x y => by kernel_rfl⟩
theorem spec_l2Spread_s : spec_l2Spread_D.Says Try.prog := spec_l2Spread_w.says follows tabOk spec_l2Lists_e_ok
noncomputable def spec_l2Spread_e : Env := more spec_l2Lists_e spec_l2Spread_D
theorem spec_l2Spread_e_ok : EnvOk Try.prog spec_l2Spread_e := more_ok spec_l2Lists_e_ok spec_l2Spread_s
/-! loop.example/g01128/spec.l2Dist -/
abbrev spec_l2Dist_E : Ve.End := ⟨[⟨4, (.own .shr), (.list I), none⟩], []⟩
abbrev spec_l2Dist_a : List ASh := [.val (.prod (.list (.list I)) (.list (.prod I I))), .val I]
abbrev spec_l2Dist_o : List OSh := []
noncomputable def spec_l2Dist : argP spec_l2Dist_a → obP (extObs 0 spec_l2Dist_o) → Option spec_l2Dist_E.P
  | (x, i, ()), () => match spec_l2Lists (x, ()) () with | some ((r, ()), ()) => (match spec_l2Spread (r, i, ()) () with | some ((r2, ()), ()) => some ((r2, ()), ()) | none => none) | none => none
noncomputable def spec_l2Dist_x : Cx := ⟨tab, spec_l2Spread_e, fun _ _ => 0, fun _ => false, [(6, 0), (6, 1), (6, 2), (6, 3), (8, 0), (8, 1), (8, 2), (8, 3)], [(2, 0)]⟩
noncomputable def c147 : Code := bodyOf Try.f147
noncomputable def spec_l2Dist_A : Ann := .nil
noncomputable def spec_l2Dist_D : Ve.Fn := ⟨147, spec_l2Dist_a, spec_l2Dist_o, spec_l2Dist_E, spec_l2Dist⟩
theorem spec_l2Dist_w : Walk Try.prog spec_l2Dist_x spec_l2Dist_D Try.f147 c147 9 spec_l2Dist_A :=
  ⟨⟨Try.func147, by kernel_rfl, by kernel_rfl, by kernel_rfl, by decide, by kernel_rfl, Nat.le_of_ble_eq_true (by kernel_rfl)⟩, by kernel_rfl, by kernel_rfl, by kernel_rfl, kcast (by kernel_rfl) trivial, by kernel_rfl, fun x y => by kernel_rfl⟩
theorem spec_l2Dist_s : spec_l2Dist_D.Says Try.prog := spec_l2Dist_w.says follows tabOk spec_l2Spread_e_ok
noncomputable def spec_l2Dist_e : Env := more spec_l2Spread_e spec_l2Dist_D
theorem spec_l2Dist_e_ok : EnvOk Try.prog spec_l2Dist_e := more_ok spec_l2Spread_e_ok spec_l2Dist_s
/-! loop.example/g01128/spec.l11Ends -/
abbrev spec_l11Ends_E : Ve.End := ⟨[⟨8, .shr, .bool, none⟩], []⟩
abbrev spec_l11Ends_a : List ASh := [.val (.prod (.list (.list I)) (.list (.prod I I))), .val (.list I), .val I, .val I]
abbrev spec_l11Ends_o : List OSh := []
noncomputable def spec_l11Ends : argP spec_l11Ends_a → obP (extObs 0 spec_l11Ends_o) → Option spec_l11Ends_E.P
  | (x, heights, i, j, ()), () => match spec_l11Heights (x, heights, ()) () with | some ((r, ()), ()) => (bif r then (match spec_l2Place (x, i, ()) () with | some ((r2, ()), ()) => (bif r2 then (match spec_l2Place (x, j, ()) () with | some ((r3, ()), ()) => (bif r3 then (match spec_l2Dist (x, i, ()) () with | some ((r4, ()), ()) => guardB (inb j (List.length r4)) (some (((decide ((0 : Int) ≤ (List.getD r4 (Int.toNat j) (0 : Int)))), ()), ())) | none => none) else (some ((false, ()), ()))) | none => none) else (some ((false, ()), ()))) | none => none) else (some ((false, ()), ()))) | none => none
noncomputable def spec_l11Ends_x : Cx := ⟨tab, spec_l2Dist_e, fun _ _ => 0, fun _ => false, [(11, 0), (11, 1), (11, 2), (11, 3), (15, 0), (15, 1), (15, 2), (15, 3), (20, 0), (20, 1), (20, 2), (20, 3), (25, 0), (25, 1), (25, 2), (25, 3)], [(4, 0)]⟩
noncomputable def c107 : Code := bodyOf Try.f107
noncomputable def spec_l11Ends_A : Ann := .nil
noncomputable def spec_l11Ends_D : Ve.Fn := ⟨107, spec_l11Ends_a, spec_l11Ends_o, spec_l11Ends_E, spec_l11Ends⟩
theorem spec_l11Ends_w : Walk Try.prog spec_l11Ends_x spec_l11Ends_D Try.f107 c107 31 spec_l11Ends_A :=
  ⟨⟨Try.func107, by kernel_rfl, by kernel_rfl, by kernel_rfl, by decide, by kernel_rfl, Nat.le_of_ble_eq_true (by kernel_rfl)⟩, by kernel_rfl, by kernel_rfl, by kernel_rfl, kcast (by kernel_rfl) trivial, by kernel_rfl, fun x y => by kernel_rfl⟩
theorem spec_l11Ends_s : spec_l11Ends_D.Says Try.prog := spec_l11Ends_w.says follows tabOk spec_l2Dist_e_ok
noncomputable def spec_l11Ends_e : Env := more spec_l2Dist_e spec_l11Ends_D
theorem spec_l11Ends_e_ok : EnvOk Try.prog spec_l11Ends_e := more_ok spec_l2Dist_e_ok spec_l11Ends_s
/-! loop.example/g01128/spec.l11Under -/
abbrev spec_l11Under_J0 : Tpl := ⟨[(0, .val (.list I)), (1, .val I), (5, .own .shr I), (6, .val I)], [], []⟩
abbrev spec_l11Under_J1 : Tpl := ⟨[(5, .own .shr I)], [], []⟩
abbrev spec_l11Under_E : Ve.End := ⟨[⟨4, (.own .shr), (.list I), none⟩], []⟩
abbrev spec_l11Under_a : List ASh := [.val (.list I), .val I]
abbrev spec_l11Under_o : List OSh := []
abbrev spec_l11Under_O0 : Out := .one (.ex 0) spec_l11Under_J1
noncomputable def spec_l11Under_B0 : spec_l11Under_J0.P → Option (spec_l11Under_J0.P ⊕ spec_l11Under_O0.P)
  | ((heights, level, out, i, ()), ()) => bif (decide (i < (List.length heights : Int))) then (guardB (inb i (List.length heights)) (bif (decide ((List.getD heights (Int.toNat i) (0 : Int)) ≤ level)) then (guardB (decide ((List.length out + List.length [i]) * 8 ≤ 70368744177664)) (some (.inl ((heights, level, (out ++ [i]), (w64 (i + (1 : Int))), ()), ())))) else (some (.inl ((heights, level, out, (w64 (i + (1 : Int))), ()), ()))))) else (some (.inr ((out, ()), ())))
noncomputable def spec_l11Under : argP spec_l11Under_a → obP (extObs 0 spec_l11Under_o) → Option spec_l11Under_E.P
  | (heights, level, ()), () => match loopO spec_l11Under_B0 ((heights, level, ([] : (List Int)), (0 : Int), ()), ()) with | some ((out, ()), ()) => some ((out, ()), ()) | none => none
noncomputable def spec_l11Under_x : Cx := ⟨tab, spec_l11Ends_e, fun _ _ => 0, fun _ => false, [(22, 0)], []⟩
noncomputable def c101 : Code := bodyOf Try.f101
noncomputable def spec_l11Under_A : Ann := .seq .nil (.seq .nil (.seq (.seq .nil (.loop spec_l11Under_J0 spec_l11Under_O0 spec_l11Under_B0 .nil)) .nil))
theorem spec_l11Under_r0 (p : spec_l11Under_J0.P) : run spec_l11Under_x (subc [1, 1, 0, 1, 0, 0] c101) .nil (spec_l11Under_J0.S p) (leaf spec_l11Under_J0 spec_l11Under_O0) = spec_l11Under_B0 p := by kernel_rfl
noncomputable def spec_l11Under_D : Ve.Fn := ⟨101, spec_l11Under_a, spec_l11Under_o, spec_l11Under_E, spec_l11Under⟩
theorem spec_l11Under_w : Walk Try.prog spec_l11Under_x spec_l11Under_D Try.f101 c101 25 spec_l11Under_A :=
  ⟨⟨Try.func101, by kernel_rfl, by kernel_rfl, by kernel_rfl, by decide, by kernel_rfl, Nat.le_of_ble_eq_true (by kernel_rfl)⟩, by kernel_rfl, by kernel_rfl, by kernel_rfl, kcast (by kernel_rfl) (⟨spec_l11Under_r0, trivial⟩ : (∀ p, run spec_l11Under_x (subc [1, 1, 0, 1, 0, 0] c101) .nil (spec_l11Under_J0.S p) (leaf spec_l11Under_J0 spec_l11Under_O0) = spec_l11Under_B0 p) ∧ True), by kernel_rfl, fun x y => by kernel_rfl⟩
theorem spec_l11Under_s : spec_l11Under_D.Says Try.prog := spec_l11Under_w.says follows tabOk spec_l11Ends_e_ok
noncomputable def spec_l11Under_e : Env := more spec_l11Ends_e spec_l11Under_D
theorem spec_l11Under_e_ok : EnvOk Try.prog spec_l11Under_e := more_ok spec_l11Ends_e_ok spec_l11Under_s
/-! loop.example/g01128/spec.l1Own -/
abbrev spec_l1Own_E : Ve.End := ⟨[⟨2, (.own .shr), (.list I), none⟩], []⟩
abbrev spec_l1Own_a : List ASh := [.val (.list I)]
abbrev spec_l1Own_o : List OSh := []
noncomputable def spec_l1Own : argP spec_l1Own_a → obP (extObs 0 spec_l1Own_o) → Option spec_l1Own_E.P
  | (l, ()), () => guardB (decide ((List.length ([] : (List Int)) + List.length l) * 8 ≤ 70368744177664)) (some (((([] : (List Int)) ++ l), ()), ()))
noncomputable def spec_l1Own_x : Cx := ⟨tab, spec_l11Under_e, fun _ _ => 0, fun _ => false, [], []⟩
noncomputable def c133 : Code := bodyOf Try.f133
noncomputable def spec_l1Own_A : Ann := .nil
noncomputable def spec_l1Own_D : Ve.Fn := ⟨133, spec_l1Own_a, spec_l1Own_o, spec_l1Own_E, spec_l1Own⟩
theorem spec_l1Own_w : Walk Try.prog spec_l1Own_x spec_l1Own_D Try.f133 c133 6 spec_l1Own_A :=
  ⟨⟨Try.func133, by kernel_rfl, by kernel_rfl, by kernel_rfl, by decide, by kernel_rfl, Nat.le_of_ble_eq_true (by kernel_rfl)⟩, by kernel_rfl, by kernel_rfl, by kernel_rfl, kcast (by kernel_rfl) trivial, by kernel_rfl, fun x y => by kernel_rfl⟩
theorem spec_l1Own_s : spec_l1Own_D.Says Try.prog := spec_l1Own_w.says follows tabOk spec_l11Under_e_ok
noncomputable def spec_l1Own_e : Env := more spec_l11Under_e spec_l1Own_D
theorem spec_l1Own_e_ok : EnvOk Try.prog spec_l1Own_e := more_ok spec_l11Under_e_ok spec_l1Own_s
/-! loop.example/g01128/spec.l2Induced -/
abbrev spec_l2Induced_J0 : Tpl := ⟨[(1, .val (.list I)), (2, .cst (.prod (.list (.list I)) (.list (.prod I I)))), (4, .ptr (4, 0)), (5, .ptr (5, 0)), (6, .own .shr I), (7, .val I)], [((4, 0), .box (.prod (.own (.own .shr)) (.own .shr)) (.prod (.list (.list I)) (.list (.prod I I)))), ((5, 0), .box (.prod (.own (.own .shr)) (.own .shr)) (.prod (.list (.list I)) (.list (.prod I I))))], []⟩
abbrev spec_l2Induced_J1 : Tpl := ⟨[(1, .val (.list I)), (2, .cst (.prod (.list (.list I)) (.list (.prod I I)))), (4, .ptr (4, 0)), (5, .ptr (5, 0)), (6, .own .shr I)], [((4, 0), .box (.prod (.own (.own .shr)) (.own .shr)) (.prod (.list (.list I)) (.list (.prod I I)))), ((5, 0), .box (.prod (.own (.own .shr)) (.own .shr)) (.prod (.list (.list I)) (.list (.prod I I))))], []⟩
abbrev spec_l2Induced_J2 : Tpl := ⟨[(1, .val (.list I)), (2, .cst (.prod (.list (.list I)) (.list (.prod I I)))), (4, .ptr (4, 0)), (5, .ptr (5, 0)), (6, .own .shr I), (8, .val I)], [((4, 0), .box (.prod (.own (.own .shr)) (.own .shr)) (.prod (.list (.list I)) (.list (.prod I I)))), ((5, 0), .box (.prod (.own (.own .shr)) (.own .shr)) (.prod (.list (.list I)) (.list (.prod I I))))], []⟩
abbrev spec_l2Induced_J3 : Tpl := ⟨[(2, .cst (.prod (.list (.list I)) (.list (.prod I I)))), (4, .ptr (4, 0)), (5, .ptr (5, 0)), (6, .own .shr I)], [((4, 0), .box (.prod (.own (.own .shr)) (.own .shr)) (.prod (.list (.list I)) (.list (.prod I I)))), ((5, 0), .box (.prod (.own (.own .shr)) (.own .shr)) (.prod (.list (.list I)) (.list (.prod I I))))], []⟩
abbrev spec_l2Induced_J4 : Tpl := ⟨[(2, .cst (.prod (.list (.list I)) (.list (.prod I I)))), (4, .ptr (4, 0)), (5, .ptr (5, 0)), (6, .own .shr I), (9, .val I)], [((4, 0), .box (.prod (.own (.own .shr)) (.own .shr)) (.prod (.list (.list I)) (.list (.prod I I)))), ((5, 0), .box (.prod (.own (.own .shr)) (.own .shr)) (.prod (.list (.list I)) (.list (.prod I I))))], []⟩
abbrev spec_l2Induced_J5 : Tpl := ⟨[(4, .ptr (4, 0)), (5, .ptr (5, 0))], [((4, 0), .box (.prod (.own (.own .shr)) (.own .shr)) (.prod (.list (.list I)) (.list (.prod I I)))), ((5, 0), .box (.prod (.own (.own .shr)) (.own .shr)) (.prod (.list (.list I)) (.list (.prod I I))))], []⟩
abbrev spec_l2Induced_J6 : Tpl := ⟨[(1, .val (.list I)), (2, .cst (.prod (.list (.list I)) (.list (.prod I I)))), (4, .ptr (4, 0)), (17, .val I)], [((4, 0), .box (.prod (.own (.own .shr)) (.own .shr)) (.prod (.list (.list I)) (.list (.prod I I))))], []⟩
abbrev spec_l2Induced_J7 : Tpl := ⟨[(1, .val (.list I)), (2, .cst (.prod (.list (.list I)) (.list (.prod I I)))), (4, .ptr (4, 0)), (12, .own (.own .shr) (.list I)), (17, .val I)], [((4, 0), .box (.prod (.own (.own .shr)) (.own .shr)) (.prod (.list (.list I)) (.list (.prod I I))))], []⟩
abbrev spec_l2Induced_J8 : Tpl := ⟨[(1, .val (.list I)), (2, .cst (.prod (.list (.list I)) (.list (.prod I I)))), (4, .ptr (4, 0)), (12, .own (.own .shr) (.list I)), (13, .own .shr (.prod I I)), (14, .str (.pr (.ref (12, 0) []) (.ref (13, 0) []))), (17, .val I)], [((4, 0), .box (.prod (.own (.own .shr)) (.own .shr)) (.prod (.list (.list I)) (.list (.prod I I))))], []⟩
abbrev spec_l2Induced_J9 : Tpl := ⟨[(1, .val (.list I)), (2, .cst (.prod (.list (.list I)) (.list (.prod I I)))), (4, .ptr (4, 0)), (5, .ptr (5, 0)), (12, .own (.own .shr) (.list I)), (13, .own .shr (.prod I I)), (14, .str (.pr (.ref (12, 0) []) (.ref (13, 0) []))), (17, .val I)], [((4, 0), .box (.prod (.own (.own .shr)) (.own .shr)) (.prod (.list (.list I)) (.list (.prod I I)))), ((5, 0), .box (.prod (.own (.own .shr)) (.own .shr)) (.prod (.list (.list I)) (.list (.prod I I))))], []⟩
abbrev spec_l2Induced_J10 : Tpl := ⟨[(1, .val (.list I)), (2, .cst (.prod (.list (.list I)) (.list (.prod I I)))), (4, .ptr (4, 0)), (12, .own (.own .shr) (.list I)), (18, .own .shr I)], [((4, 0), .box (.prod (.own (.own .shr)) (.own .shr)) (.prod (.list (.list I)) (.list (.prod I I))))], []⟩
abbrev spec_l2Induced_J11 : Tpl := ⟨[(1, .val (.list I)), (2, .cst (.prod (.list (.list I)) (.list (.prod I I)))), (4, .ptr (4, 0)), (5, .ptr (5, 0)), (12, .own (.own .shr) (.list I)), (17, .val I)], [((4, 0), .box (.prod (.own (.own .shr)) (.own .shr)) (.prod (.list (.list I)) (.list (.prod I I)))), ((5, 0), .box (.prod (.own (.own .shr)) (.own .shr)) (.prod (.list (.list I)) (.list (.prod I I))))], []⟩
abbrev spec_l2Induced_J12 : Tpl := ⟨[(1, .val (.list I)), (2, .cst (.prod (.list (.list I)) (.list (.prod I I)))), (4, .ptr (4, 0)), (13, .own .shr (.prod I I)), (17, .val I)], [((4, 0), .box (.prod (.own (.own .shr)) (.own .shr)) (.prod (.list (.list I)) (.list (.prod I I))))], []⟩
abbrev spec_l2Induced_J13 : Tpl := ⟨[(1, .val (.list I)), (2, .cst (.prod (.list (.list I)) (.list (.prod I I)))), (4, .ptr (4, 0)), (13, .own .shr (.prod I I)), (18, .own .shr I)], [((4, 0), .box (.prod (.own (.own .shr)) (.own .shr)) (.prod (.list (.list I)) (.list (.prod I I))))], []⟩
abbrev spec_l2Induced_J14 : Tpl := ⟨[(1, .val (.list I)), (2, .cst (.prod (.list (.list I)) (.list (.prod I I)))), (4, .ptr (4, 0)), (5, .ptr (5, 0)), (13, .own .shr (.prod I I)), (17, .val I)], [((4, 0), .box (.prod (.own (.own .shr)) (.own .shr)) (.prod (.list (.list I)) (.list (.prod I I)))), ((5, 0), .box (.prod (.own (.own .shr)) (.own .shr)) (.prod (.list (.list I)) (.list (.prod I I))))], []⟩
abbrev spec_l2Induced_J15 : Tpl := ⟨[(1, .val (.list I)), (2, .cst (.prod (.list (.list I)) (.list (.prod I I)))), (4, .ptr (4, 0)), (18, .own .shr I)], [((4, 0), .box (.prod (.own (.own .shr)) (.own .shr)) (.prod (.list (.list I)) (.list (.prod I I))))], []⟩
abbrev spec_l2Induced_J16 : Tpl := ⟨[(1, .val (.list I)), (2, .cst (.prod (.list (.list I)) (.list (.prod I I)))), (4, .ptr (4, 0)), (5, .ptr (5, 0)), (18, .own .shr I)], [((4, 0), .box (.prod (.own (.own .shr)) (.own .shr)) (.prod (.list (.list I)) (.list (.prod I I)))), ((5, 0), .box (.prod (.own (.own .shr)) (.own .shr)) (.prod (.list (.list I)) (.list (.prod I I))))], []⟩
abbrev spec_l2Induced_J17 : Tpl := ⟨[(1, .val (.list I)), (2, .cst (.prod (.list (.list I)) (.list (.prod I I)))), (4, .ptr (4, 0)), (5, .ptr (5, 0)), (17, .val I)], [((4, 0), .box (.prod (.own (.own .shr)) (.own .shr)) (.prod (.list (.list I)) (.list (.prod I I)))), ((5, 0), .box (.prod (.own (.own .shr)) (.own .shr)) (.prod (.list (.list I)) (.list (.prod I I))))], []⟩
abbrev spec_l2Induced_J18 : Tpl := ⟨[(1, .val (.list I)), (2, .cst (.prod (.list (.list I)) (.list (.prod I I)))), (4, .ptr (4, 0)), (5, .ptr (5, 0)), (6, .own .shr I), (8, .val I), (41, .adp (5, 0) [.fst]), (50, .val (.list I))], [((4, 0), .box (.prod (.own (.own .shr)) (.own .shr)) (.prod (.list (.list I)) (.list (.prod I I)))), ((5, 0), .box (.prod (.own (.own .shr)) (.own .shr)) (.prod (.list (.list I)) (.list (.prod I I))))], []⟩
abbrev spec_l2Induced_E : Ve.End := ⟨[⟨4, (.prod (.own (.own .shr)) (.own .shr)), (.prod (.list (.list I)) (.list (.prod I I))), some 30⟩], []⟩
abbrev spec_l2Induced_a : List ASh := [.val (.prod (.list (.list I)) (.list (.prod I I))), .val (.list I)]
abbrev spec_l2Induced_o : List OSh := []
noncomputable def spec_l2Induced_D3 : spec_l2Induced_J9.P → Option spec_l2Induced_J1.P
  | ((t1, t2, t12, t13, ((), ()), t17, ()), (t4, t5, ())) => guardB (decide (0 ≤ t17) && decide (t17 ≤ t17) && decide (t17 * 8 ≤ 140737488355328)) (some ((t1, t2, (List.replicate (Int.toNat t17) (0 : Int)), ()), (t4, (t12, t13), ())))
noncomputable def spec_l2Induced_T3 : DT spec_l2Induced_J1 := .node spec_l2Induced_J9 spec_l2Induced_D3 (.br [(6, .sole), (8, .sole), (9, .flo)] .fin (.br [(8, .sole), (6, .sole), (9, .flo)] .fin .nobr))
noncomputable def spec_l2Induced_D2 : spec_l2Induced_J8.P → Option spec_l2Induced_J1.P
  | ((t1, t2, t12, t13, ((), ()), t17, ()), (t4, ())) => guardB (decide (0 ≤ t17) && decide (t17 ≤ t17) && decide (t17 * 8 ≤ 140737488355328)) (some ((t1, t2, (List.replicate (Int.toNat t17) (0 : Int)), ()), (t4, (t12, t13), ())))
noncomputable def spec_l2Induced_T2 : DT spec_l2Induced_J1 := .node spec_l2Induced_J8 spec_l2Induced_D2 (.br [(6, .sole), (7, .sole), (8, .sole), (9, .flo)] .fin (.br [(7, .sole)] spec_l2Induced_T3 .nobr))
noncomputable def spec_l2Induced_D4 : spec_l2Induced_J10.P → Option spec_l2Induced_J1.P
  | ((t1, t2, t12, t18, ()), (t4, ())) => some ((t1, t2, t18, ()), (t4, (t12, ([] : (List (Int × Int)))), ()))
noncomputable def spec_l2Induced_T4 : DT spec_l2Induced_J1 := .node spec_l2Induced_J10 spec_l2Induced_D4 (.br [(1, .sole), (2, .flo), (7, .sole), (8, .sole), (9, .flo)] .fin (.br [(7, .sole), (1, .sole), (2, .flo), (8, .sole), (9, .flo)] .fin .nobr))
noncomputable def spec_l2Induced_D5 : spec_l2Induced_J11.P → Option spec_l2Induced_J1.P
  | ((t1, t2, t12, t17, ()), (t4, t5, ())) => spec_l2Induced_D3 ((t1, t2, t12, ([] : (List (Int × Int))), ((), ()), t17, ()), (t4, t5, ()))
noncomputable def spec_l2Induced_T5 : DT spec_l2Induced_J1 := .node spec_l2Induced_J11 spec_l2Induced_D5 (.br [(1, .sole), (2, .flo)] spec_l2Induced_T3 (.br [(6, .sole), (1, .sole), (2, .flo), (8, .sole), (9, .flo)] .fin .nobr))
noncomputable def spec_l2Induced_D1 : spec_l2Induced_J7.P → Option spec_l2Induced_J1.P
  | ((t1, t2, t12, t17, ()), (t4, ())) => spec_l2Induced_D2 ((t1, t2, t12, ([] : (List (Int × Int))), ((), ()), t17, ()), (t4, ()))
noncomputable def spec_l2Induced_T1 : DT spec_l2Induced_J1 := .node spec_l2Induced_J7 spec_l2Induced_D1 (.br [(1, .sole), (2, .flo)] spec_l2Induced_T2 (.br [(6, .sole)] spec_l2Induced_T4 (.br [(7, .sole)] spec_l2Induced_T5 .nobr)))
noncomputable def spec_l2Induced_D7 : spec_l2Induced_J13.P → Option spec_l2Induced_J1.P
  | ((t1, t2, t13, t18, ()), (t4, ())) => some ((t1, t2, t18, ()), (t4, (([] : (List (List Int))), t13), ()))
noncomputable def spec_l2Induced_T7 : DT spec_l2Induced_J1 := .node spec_l2Induced_J13 spec_l2Induced_D7 (.br [(0, .sole), (2, .flo), (7, .sole), (8, .sole), (9, .flo)] .fin (.br [(7, .sole), (0, .sole), (2, .flo), (8, .sole), (9, .flo)] .fin .nobr))
noncomputable def spec_l2Induced_D8 : spec_l2Induced_J14.P → Option spec_l2Induced_J1.P
  | ((t1, t2, t13, t17, ()), (t4, t5, ())) => spec_l2Induced_D3 ((t1, t2, ([] : (List (List Int))), t13, ((), ()), t17, ()), (t4, t5, ()))
noncomputable def spec_l2Induced_T8 : DT spec_l2Induced_J1 := .node spec_l2Induced_J14 spec_l2Induced_D8 (.br [(0, .sole), (2, .flo)] spec_l2Induced_T3 (.br [(6, .sole), (0, .sole), (2, .flo), (8, .sole), (9, .flo)] .fin .nobr))
noncomputable def spec_l2Induced_D6 : spec_l2Induced_J12.P → Option spec_l2Induced_J1.P
  | ((t1, t2, t13, t17, ()), (t4, ())) => spec_l2Induced_D2 ((t1, t2, ([] : (List (List Int))), t13, ((), ()), t17, ()), (t4, ()))
noncomputable def spec_l2Induced_T6 : DT spec_l2Induced_J1 := .node spec_l2Induced_J12 spec_l2Induced_D6 (.br [(0, .sole), (2, .flo)] spec_l2Induced_T2 (.br [(6, .sole)] spec_l2Induced_T7 (.br [(7, .sole)] spec_l2Induced_T8 .nobr)))
noncomputable def spec_l2Induced_D10 : spec_l2Induced_J16.P → Option spec_l2Induced_J1.P
  | ((t1, t2, t18, ()), (t4, t5, ())) => some ((t1, t2, t18, ()), (t4, (([] : (List (List Int))), ([] : (List (Int × Int)))), ()))
noncomputable def spec_l2Induced_T10 : DT spec_l2Induced_J1 := .node spec_l2Induced_J16 spec_l2Induced_D10 (.br [(0, .sole), (1, .sole), (2, .flo), (8, .sole), (9, .flo)] .fin (.br [(1, .sole), (0, .sole), (2, .flo), (8, .sole), (9, .flo)] .fin .nobr))
noncomputable def spec_l2Induced_D9 : spec_l2Induced_J15.P → Option spec_l2Induced_J1.P
  | ((t1, t2, t18, ()), (t4, ())) => spec_l2Induced_D4 ((t1, t2, ([] : (List (List Int))), t18, ()), (t4, ()))
noncomputable def spec_l2Induced_T9 : DT spec_l2Induced_J1 := .node spec_l2Induced_J15 spec_l2Induced_D9 (.br [(0, .sole)] spec_l2Induced_T4 (.br [(1, .sole)] spec_l2Induced_T7 (.br [(7, .sole)] spec_l2Induced_T10 .nobr)))
noncomputable def spec_l2Induced_D11 : spec_l2Induced_J17.P → Option spec_l2Induced_J1.P
  | ((t1, t2, t17, ()), (t4, t5, ())) => spec_l2Induced_D5 ((t1, t2, ([] : (List (List Int))), t17, ()), (t4, t5, ()))
noncomputable def spec_l2Induced_T11 : DT spec_l2Induced_J1 := .node spec_l2Induced_J17 spec_l2Induced_D11 (.br [(0, .sole)] spec_l2Induced_T5 (.br [(1, .sole)] spec_l2Induced_T8 (.br [(6, .sole)] spec_l2Induced_T10 .nobr)))
noncomputable def spec_l2Induced_D0 : spec_l2Induced_J6.P → Option spec_l2Induced_J1.P
  | ((t1, t2, t17, ()), (t4, ())) => spec_l2Induced_D1 ((t1, t2, ([] : (List (List Int))), t17, ()), (t4, ()))
noncomputable def spec_l2Induced_T0 : DT spec_l2Induced_J1 := .node spec_l2Induced_J6 spec_l2Induced_D0 (.br [(0, .sole)] spec_l2Induced_T1 (.br [(1, .sole)] spec_l2Induced_T6 (.br [(6, .sole)] spec_l2Induced_T9 (.br [(7, .sole)] spec_l2Induced_T11 .nobr))))
noncomputable def spec_l2Induced_D12 : spec_l2Induced_J18.P → Option spec_l2Induced_J2.P
  | ((t1, t2, t6, t8, t50, ()), (t4, t5, ())) => match spec_l1Own (t50, ()) () with | some ((r, ()), ()) => guardB (decide ((List.length t5.1 + List.length [r]) * 24 ≤ 70368744177664)) (some ((t1, t2, t6, t8, ()), (t4, ((t5.1 ++ [r]), t5.2), ()))) | none => none
noncomputable def spec_l2Induced_T12 : DT spec_l2Induced_J2 := .node spec_l2Induced_J18 spec_l2Induced_D12 (.br [(1, .sole), (10, .sole), (11, .sole), (12, .sole), (13, .flo), (14, .sole)] .fin (.br [(10, .sole), (1, .qui), (11, .sole), (12, .sole), (13, .flo), (14, .sole)] .fin .nobr))
abbrev spec_l2Induced_O0 : Out := .one (.ex 0) spec_l2Induced_J1
noncomputable def spec_l2Induced_B0 : spec_l2Induced_J0.P → Option (spec_l2Induced_J0.P ⊕ spec_l2Induced_O0.P)
  | ((t1, t2, t6, t7, ()), (t4, t5, ())) => bif (decide (t7 < (List.length t6 : Int))) then (guardB (inb t7 (List.length t6)) (some (.inl ((t1, t2, (List.set t6 (Int.toNat t7) (-1 : Int)), (w64 (t7 + (1 : Int))), ()), (t4, t5, ()))))) else (some (.inr ((t1, t2, t6, ()), (t4, t5, ()))))
abbrev spec_l2Induced_O1 : Out := .one (.ex 2) spec_l2Induced_J3
noncomputable def spec_l2Induced_B1 : spec_l2Induced_J2.P → Option (spec_l2Induced_J2.P ⊕ spec_l2Induced_O1.P)
  | ((t1, t2, t6, t8, ()), (t4, t5, ())) => bif (decide (t8 < (List.length t1 : Int))) then (guardB (inb t8 (List.length t1)) (guardB (inb (List.getD t1 (Int.toNat t8) (0 : Int)) (List.length t6)) (guardB (inb t8 (List.length t1)) (guardB (inb (List.getD t1 (Int.toNat t8) (0 : Int)) (List.length t2.1)) (match spec_l2Induced_D12 ((t1, t2, (List.set t6 (Int.toNat (List.getD t1 (Int.toNat t8) (0 : Int))) t8), t8, (List.getD t2.1 (Int.toNat (List.getD t1 (Int.toNat t8) (0 : Int))) ([] : (List Int))), ()), (t4, t5, ())) with | some ((t1_2, t2_2, t6_2, t8_2, ()), (t4_2, t5_2, ())) => some (.inl ((t1_2, t2_2, t6_2, (w64 (t8_2 + (1 : Int))), ()), (t4_2, t5_2, ()))) | none => none))))) else (some (.inr ((t2, t6, ()), (t4, t5, ()))))
abbrev spec_l2Induced_O2 : Out := .one (.ex 4) spec_l2Induced_J5
noncomputable def spec_l2Induced_B2 : spec_l2Induced_J4.P → Option (spec_l2Induced_J4.P ⊕ spec_l2Induced_O2.P)
  | ((t2, t6, t9, ()), (t4, t5, ())) => bif (decide (t9 < (List.length t2.2 : Int))) then (guardB (inb t9 (List.length t2.2)) (guardB (inb ((List.getD t2.2 (Int.toNat t9) ((0 : Int), (0 : Int))).1) (List.length t6)) (guardB (inb t9 (List.length t2.2)) (guardB (inb ((List.getD t2.2 (Int.toNat t9) ((0 : Int), (0 : Int))).2) (List.length t6)) (bif (decide ((0 : Int) ≤ (List.getD t6 (Int.toNat ((List.getD t2.2 (Int.toNat t9) ((0 : Int), (0 : Int))).1)) (0 : Int)))) then (bif (decide ((0 : Int) ≤ (List.getD t6 (Int.toNat ((List.getD t2.2 (Int.toNat t9) ((0 : Int), (0 : Int))).2)) (0 : Int)))) then (guardB (decide ((List.length t5.2 + List.length [((List.getD t6 (Int.toNat ((List.getD t2.2 (Int.toNat t9) ((0 : Int), (0 : Int))).1)) (0 : Int)), (List.getD t6 (Int.toNat ((List.getD t2.2 (Int.toNat t9) ((0 : Int), (0 : Int))).2)) (0 : Int)))]) * 16 ≤ 70368744177664)) (some (.inl ((t2, t6, (w64 (t9 + (1 : Int))), ()), (t4, (t5.1, (t5.2 ++ [((List.getD t6 (Int.toNat ((List.getD t2.2 (Int.toNat t9) ((0 : Int), (0 : Int))).1)) (0 : Int)), (List.getD t6 (Int.toNat ((List.getD t2.2 (Int.toNat t9) ((0 : Int), (0 : Int))).2)) (0 : Int)))])), ()))))) else (some (.inl ((t2, t6, (w64 (t9 + (1 : Int))), ()), (t4, t5, ()))))) else (some (.inl ((t2, t6, (w64 (t9 + (1 : Int))), ()), (t4, t5, ()))))))))) else (some (.inr ((), (t4, t5, ()))))
noncomputable def spec_l2Induced : argP spec_l2Induced_a → obP (extObs 0 spec_l2Induced_o) → Option spec_l2Induced_E.P
  | (t0, t1, ()), () => match spec_l2Induced_D0 ((t1, t0, (List.length t0.1 : Int), ()), ((([] : (List (List Int))), ([] : (List (Int × Int)))), ())) with | some ((t1_2, t2, t6, ()), (t4, t5, ())) => (match loopO spec_l2Induced_B0 ((t1_2, t2, t6, (0 : Int), ()), (t4, t5, ())) with | some ((t1_3, t2_2, t6_2, ()), (t4_2, t5_2, ())) => (match loopO spec_l2Induced_B1 ((t1_3, t2_2, t6_2, (0 : Int), ()), (t4_2, t5_2, ())) with | some ((t2_3, t6_3, ()), (t4_3, t5_3, ())) => (match loopO spec_l2Induced_B2 ((t2_3, t6_3, (0 : Int), ()), (t4_3, t5_3, ())) with | some ((), (t4_4, t5_4, ())) => some (((t5_4.1, t5_4.2), ()), ()) | none => none) | none => none) | none => none) | none => none
noncomputable def spec_l2Induced_x : Cx := ⟨tab, spec_l1Own_e, fun _ _ => 0, fun _ => false, [(91, 0)], [(2, 0)]⟩
noncomputable def c100 : Code := bodyOf Try.f100
noncomputable def spec_l2Induced_A : Ann := .seq .nil (.seq (.draws [(3, .flo), (4, .flo), (5, .flo)] spec_l2Induced_J1 spec_l2Induced_T0) (.seq (.seq .nil (.loop spec_l2Induced_J0 spec_l2Induced_O0 spec_l2Induced_B0 .nil)) (.seq (.seq .nil (.loop spec_l2Induced_J2 spec_l2Induced_O1 spec_l2Induced_B1 (.seq .nil (.seq (.seq .nil (.draws [(0, .flo), (2, .flo), (3, .flo), (4, .flo), (5, .flo), (6, .flo), (7, .flo), (8, .flo), (9, .flo)] spec_l2Induced_J2 spec_l2Induced_T12)) .nil)))) (.seq (.seq .nil (.loop spec_l2Induced_J4 spec_l2Induced_O2 spec_l2Induced_B2 (.seq .nil (.seq (.seq (.draw [(0, .flo), (1, .flo), (2, .flo), (3, .flo), (4, .flo), (5, .flo), (6, .flo), (7, .flo), (9, .flo), (10, .flo), (11, .flo), (12, .flo), (13, .flo), (14, .flo), (15, .flo), (16, .flo), (8, .qui), (18, .flo), (17, .qui), (19, .flo)]) .nil) .nil)))) .nil))))
theorem spec_l2Induced_D0b0 (p : spec_l2Induced_J6.P) : runDrawn spec_l2Induced_x (opsOf (subc [1, 0] c100)) [(0, .sole)] (spec_l2Induced_J6.S p) (endT spec_l2Induced_x spec_l2Induced_T1) = spec_l2Induced_D0 p := by kernel_rfl
theorem spec_l2Induced_D1b0 (p : spec_l2Induced_J7.P) : runDrawn spec_l2Induced_x (opsOf (subc [1, 0] c100)) [(1, .sole), (2, .flo)] (spec_l2Induced_J7.S p) (endT spec_l2Induced_x spec_l2Induced_T2) = spec_l2Induced_D1 p := by kernel_rfl
theorem spec_l2Induced_D2b0 (p : spec_l2Induced_J8.P) : runDrawn spec_l2Induced_x (opsOf (subc [1, 0] c100)) [(6, .sole), (7, .sole), (8, .sole), (9, .flo)] (spec_l2Induced_J8.S p) (endT spec_l2Induced_x (.fin : DT spec_l2Induced_J1)) = spec_l2Induced_D2 p := by kernel_rfl
theorem spec_l2Induced_D2b1 (p : spec_l2Induced_J8.P) : runDrawn spec_l2Induced_x (opsOf (subc [1, 0] c100)) [(7, .sole)] (spec_l2Induced_J8.S p) (endT spec_l2Induced_x spec_l2Induced_T3) = spec_l2Induced_D2 p := by kernel_rfl
theorem spec_l2Induced_D3b0 (p : spec_l2Induced_J9.P) : runDrawn spec_l2Induced_x (opsOf (subc [1, 0] c100)) [(6, .sole), (8, .sole), (9, .flo)] (spec_l2Induced_J9.S p) (endT spec_l2Induced_x (.fin : DT spec_l2Induced_J1)) = spec_l2Induced_D3 p := by kernel_rfl
theorem spec_l2Induced_D3b1 (p : spec_l2Induced_J9.P) : runDrawn spec_l2Induced_x (opsOf (subc [1, 0] c100)) [(8, .sole), (6, .sole), (9, .flo)] (spec_l2Induced_J9.S p) (endT spec_l2Induced_x (.fin : DT spec_l2Induced_J1)) = spec_l2Induced_D3 p := by kernel_rfl
theorem spec_l2Induced_D1b1 (p : spec_l2Induced_J7.P) : runDrawn spec_l2Induced_x (opsOf (subc [1, 0] c100)) [(6, .sole)] (spec_l2Induced_J7.S p) (endT spec_l2Induced_x spec_l2Induced_T4) = spec_l2Induced_D1 p := by kernel_rfl
theorem spec_l2Induced_D4b0 (p : spec_l2Induced_J10.P) : runDrawn spec_l2Induced_x (opsOf (subc [1, 0] c100)) [(1, .sole), (2, .flo), (7, .sole), (8, .sole), (9, .flo)] (spec_l2Induced_J10.S p) (endT spec_l2Induced_x (.fin : DT spec_l2Induced_J1)) = spec_l2Induced_D4 p := by kernel_rfl
theorem spec_l2Induced_D4b1 (p : spec_l2Induced_J10.P) : runDrawn spec_l2Induced_x (opsOf (subc [1, 0] c100)) [(7, .sole), (1, .sole), (2, .flo), (8, .sole), (9, .flo)] (spec_l2Induced_J10.S p) (endT spec_l2Induced_x (.fin : DT spec_l2Induced_J1)) = spec_l2Induced_D4 p := by kernel_rfl
theorem spec_l2Induced_D1b2 (p : spec_l2Induced_J7.P) : runDrawn spec_l2Induced_x (opsOf (subc [1, 0] c100)) [(7, .sole)] (spec_l2Induced_J7.S p) (endT spec_l2Induced_x spec_l2Induced_T5) = spec_l2Induced_D1 p := by kernel_rfl
theorem spec_l2Induced_D5b0 (p : spec_l2Induced_J11.P) : runDrawn spec_l2Induced_x (opsOf (subc [1, 0] c100)) [(1, .sole), (2, .flo)] (spec_l2Induced_J11.S p) (endT spec_l2Induced_x spec_l2Induced_T3) = spec_l2Induced_D5 p := by kernel_rfl
theorem spec_l2Induced_D5b1 (p : spec_l2Induced_J11.P) : runDrawn spec_l2Induced_x (opsOf (subc [1, 0] c100)) [(6, .sole), (1, .sole), (2, .flo), (8, .sole), (9, .flo)] (spec_l2Induced_J11.S p) (endT spec_l2Induced_x (.fin : DT spec_l2Induced_J1)) = spec_l2Induced_D5 p := by kernel_rfl
theorem spec_l2Induced_D0b1 (p : spec_l2Induced_J6.P) : runDrawn spec_l2Induced_x (opsOf (subc [1, 0] c100)) [(1, .sole)] (spec_l2Induced_J6.S p) (endT spec_l2Induced_x spec_l2Induced_T6) = spec_l2Induced_D0 p := by kernel_rfl
theorem spec_l2Induced_D6b0 (p : spec_l2Induced_J12.P) : runDrawn spec_l2Induced_x (opsOf (subc [1, 0] c100)) [(0, .sole), (2, .flo)] (spec_l2Induced_J12.S p) (endT spec_l2Induced_x spec_l2Induced_T2) = spec_l2Induced_D6 p := by kernel_rfl
theorem spec_l2Induced_D6b1 (p : spec_l2Induced_J12.P) : runDrawn spec_l2Induced_x (opsOf (subc [1, 0] c100)) [(6, .sole)] (spec_l2Induced_J12.S p) (endT spec_l2Induced_x spec_l2Induced_T7) = spec_l2Induced_D6 p := by kernel_rfl
theorem spec_l2Induced_D7b0 (p : spec_l2Induced_J13.P) : runDrawn spec_l2Induced_x (opsOf (subc [1, 0] c100)) [(0, .sole), (2, .flo), (7, .sole), (8, .sole), (9, .flo)] (spec_l2Induced_J13.S p) (endT spec_l2Induced_x (.fin : DT spec_l2Induced_J1)) = spec_l2Induced_D7 p := by kernel_rfl
theorem spec_l2Induced_D7b1 (p : spec_l2Induced_J13.P) : runDrawn spec_l2Induced_x (opsOf (subc [1, 0] c100)) [(7, .sole), (0, .sole), (2, .flo), (8, .sole), (9, .flo)] (spec_l2Induced_J13.S p) (endT spec_l2Induced_x (.fin : DT spec_l2Induced_J1)) = spec_l2Induced_D7 p := by kernel_rfl
theorem spec_l2Induced_D6b2 (p : spec_l2Induced_J12.P) : runDrawn spec_l2Induced_x (opsOf (subc [1, 0] c100)) [(7, .sole)] (spec_l2Induced_J12.S p) (endT spec_l2Induced_x spec_l2Induced_T8) = spec_l2Induced_D6 p := by kernel_rfl
theorem spec_l2Induced_D8b0 (p : spec_l2Induced_J14.P) : runDrawn spec_l2Induced_x (opsOf (subc [1, 0] c100)) [(0, .sole), (2, .flo)] (spec_l2Induced_J14.S p) (endT spec_l2Induced_x spec_l2Induced_T3) = spec_l2Induced_D8 p := by kernel_rfl
theorem spec_l2Induced_D8b1 (p : spec_l2Induced_J14.P) : runDrawn spec_l2Induced_x (opsOf (subc [1, 0] c100)) [(6, .sole), (0, .sole), (2, .flo), (8, .sole), (9, .flo)] (spec_l2Induced_J14.S p) (endT spec_l2Induced_x (.fin : DT spec_l2Induced_J1)) = spec_l2Induced_D8 p := by kernel_rfl
theorem spec_l2Induced_D0b2 (p : spec_l2Induced_J6.P) : runDrawn spec_l2Induced_x (opsOf (subc [1, 0] c100)) [(6, .sole)] (spec_l2Induced_J6.S p) (endT spec_l2Induced_x spec_l2Induced_T9) = spec_l2Induced_D0 p := by kernel_rfl
theorem spec_l2Induced_D9b0 (p : spec_l2Induced_J15.P) : runDrawn spec_l2Induced_x (opsOf (subc [1, 0] c100)) [(0, .sole)] (spec_l2Induced_J15.S p) (endT spec_l2Induced_x spec_l2Induced_T4) = spec_l2Induced_D9 p := by kernel_rfl
theorem spec_l2Induced_D9b1 (p : spec_l2Induced_J15.P) : runDrawn spec_l2Induced_x (opsOf (subc [1, 0] c100)) [(1, .sole)] (spec_l2Induced_J15.S p) (endT spec_l2Induced_x spec_l2Induced_T7) = spec_l2Induced_D9 p := by kernel_rfl
theorem spec_l2Induced_D9b2 (p : spec_l2Induced_J15.P) : runDrawn spec_l2Induced_x (opsOf (subc [1, 0] c100)) [(7, .sole)] (spec_l2Induced_J15.S p) (endT spec_l2Induced_x spec_l2Induced_T10) = spec_l2Induced_D9 p := by kernel_rfl
theorem spec_l2Induced_D10b0 (p : spec_l2Induced_J16.P) : runDrawn spec_l2Induced_x (opsOf (subc [1, 0] c100)) [(0, .sole), (1, .sole), (2, .flo), (8, .sole), (9, .flo)] (spec_l2Induced_J16.S p) (endT spec_l2Induced_x (.fin : DT spec_l2Induced_J1)) = spec_l2Induced_D10 p := by kernel_rfl
theorem spec_l2Induced_D10b1 (p : spec_l2Induced_J16.P) : runDrawn spec_l2Induced_x (opsOf (subc [1, 0] c100)) [(1, .sole), (0, .sole), (2, .flo), (8, .sole), (9, .flo)] (spec_l2Induced_J16.S p) (endT spec_l2Induced_x (.fin : DT spec_l2Induced_J1)) = spec_l2Induced_D10 p := by kernel_rfl
theorem spec_l2Induced_D0b3 (p : spec_l2Induced_J6.P) : runDrawn spec_l2Induced_x (opsOf (subc [1, 0] c100)) [(7, .sole)] (spec_l2Induced_J6.S p) (endT spec_l2Induced_x spec_l2Induced_T11) = spec_l2Induced_D0 p := by kernel_rfl
theorem spec_l2Induced_D11b0 (p : spec_l2Induced_J17.P) : runDrawn spec_l2Induced_x (opsOf (subc [1, 0] c100)) [(0, .sole)] (spec_l2Induced_J17.S p) (endT spec_l2Induced_x spec_l2Induced_T5) = spec_l2Induced_D11 p := by kernel_rfl
theorem spec_l2Induced_D11b1 (p : spec_l2Induced_J17.P) : runDrawn spec_l2Induced_x (opsOf (subc [1, 0] c100)) [(1, .sole)] (spec_l2Induced_J17.S p) (endT spec_l2Induced_x spec_l2Induced_T8) = spec_l2Induced_D11 p := by kernel_rfl
theorem spec_l2Induced_D11b2 (p : spec_l2Induced_J17.P) : runDrawn spec_l2Induced_x (opsOf (subc [1, 0] c100)) [(6, .sole)] (spec_l2Induced_J17.S p) (endT spec_l2Induced_x spec_l2Induced_T10) = spec_l2Induced_D11 p := by kernel_rfl
theorem spec_l2Induced_r1 (p : spec_l2Induced_J0.P) : run spec_l2Induced_x (subc [1, 1, 0, 1, 0, 0] c100) .nil (spec_l2Induced_J0.S p) (leaf spec_l2Induced_J0 spec_l2Induced_O0) = spec_l2Induced_B0 p := by kernel_rfl
theorem spec_l2Induced_r2 (p : spec_l2Induced_J2.P) : run spec_l2Induced_x (subc [1, 1, 1, 0, 1, 0, 0] c100) (.seq .nil (.seq (.seq .nil (.draws [(0, .flo), (2, .flo), (3, .flo), (4, .flo), (5, .flo), (6, .flo), (7, .flo), (8, .flo), (9, .flo)] spec_l2Induced_J2 spec_l2Induced_T12)) .nil)) (spec_l2Induced_J2.S p) (leaf spec_l2Induced_J2 spec_l2Induced_O1) = spec_l2Induced_B1 p := by kernel_rfl
theorem spec_l2Induced_D12b0 (p : spec_l2Induced_J18.P) : runDrawn spec_l2Induced_x (opsOf (subc [1, 1, 1, 0, 1, 0, 0, 1, 0, 0, 1] c100)) [(1, .sole), (10, .sole), (11, .sole), (12, .sole), (13, .flo), (14, .sole)] (spec_l2Induced_J18.S p) (endT spec_l2Induced_x (.fin : DT spec_l2Induced_J2)) = spec_l2Induced_D12 p := by kernel_rfl
theorem spec_l2Induced_D12b1 (p : spec_l2Induced_J18.P) : runDrawn spec_l2Induced_x (opsOf (subc [1, 1, 1, 0, 1, 0, 0, 1, 0, 0, 1] c100)) [(10, .sole), (1, .qui), (11, .sole), (12, .sole), (13, .flo), (14, .sole)] (spec_l2Induced_J18.S p) (endT spec_l2Induced_x (.fin : DT spec_l2Induced_J2)) = spec_l2Induced_D12 p := by kernel_rfl
theorem spec_l2Induced_r4 (p : spec_l2Induced_J4.P) : run spec_l2Induced_x (subc [1, 1, 1, 1, 0, 1, 0, 0] c100) (.seq .nil (.seq (.seq (.draw [(0, .flo), (1, .flo), (2, .flo), (3, .flo), (4, .flo), (5, .flo), (6, .flo), (7, .flo), (9, .flo), (10, .flo), (11, .flo), (12, .flo), (13, .flo), (14, .flo), (15, .flo), (16, .flo), (8, .qui), (18, .flo), (17, .qui), (19, .flo)]) .nil) .nil)) (spec_l2Induced_J4.S p) (leaf spec_l2Induced_J4 spec_l2Induced_O2) = spec_l2Induced_B2 p := by kernel_rfl
noncomputable def spec_l2Induced_D : Ve.Fn := ⟨100, spec_l2Induced_a, spec_l2Induced_o, spec_l2Induced_E, spec_l2Induced⟩
theorem spec_l2Induced_w : Walk Try.prog spec_l2Induced_x spec_l2Induced_D Try.f100 c100 95 spec_l2Induced_A :=
  ⟨⟨Try.func100, by kernel_rfl, by kernel_rfl, by kernel_rfl, by decide, by kernel_rfl, Nat.le_of_ble_eq_true (by kernel_rfl)⟩, by kernel_rfl, by kernel_rfl, by kernel_rfl, kcast (by kernel_rfl) (⟨spec_l2Induced_D0b0, spec_l2Induced_D1b0, spec_l2Induced_D2b0, spec_l2Induced_D2b1, spec_l2Induced_D3b0, spec_l2Induced_D3b1, spec_l2Induced_D1b1, spec_l2Induced_D4b0, spec_l2Induced_D4b1, spec_l2Induced_D1b2, spec_l2Induced_D5b0, spec_l2Induced_D3b0, spec_l2Induced_D3b1, spec_l2Induced_D5b1, spec_l2Induced_D0b1, spec_l2Induced_D6b0, spec_l2Induced_D2b0, spec_l2Induced_D2b1, spec_l2Induced_D3b0, spec_l2Induced_D3b1, spec_l2Induced_D6b1, spec_l2Induced_D7b0, spec_l2Induced_D7b1, spec_l2Induced_D6b2, spec_l2Induced_D8b0, spec_l2Induced_D3b0, spec_l2Induced_D3b1, spec_l2Induced_D8b1, spec_l2Induced_D0b2, spec_l2Induced_D9b0, spec_l2Induced_D4b0, spec_l2Induced_D4b1, spec_l2Induced_D9b1, spec_l2Induced_D7b0, spec_l2Induced_D7b1, spec_l2Induced_D9b2, spec_l2Induced_D10b0, spec_l2Induced_D10b1, spec_l2Induced_D0b3, spec_l2Induced_D11b0, spec_l2Induced_D5b0, spec_l2Induced_D3b0, spec_l2Induced_D3b1, spec_l2Induced_D5b1, spec_l2Induced_D11b1, spec_l2Induced_D8b0, spec_l2Induced_D3b0, spec_l2Induced_D3b1, spec_l2Induced_D8b1, spec_l2Induced_D11b2, spec_l2Induced_D10b0, spec_l2Induced_D10b1, spec_l2Induced_r1, spec_l2Induced_r2, spec_l2Induced_D12b0, spec_l2Induced_D12b1, spec_l2Induced_r4, trivial⟩ : (∀ p, runDrawn spec_l2Induced_x (opsOf (subc [1, 0] c100)) [(0, .sole)] (spec_l2Induced_J6.S p) (endT spec_l2Induced_x spec_l2Induced_T1) = spec_l2Induced_D0 p) ∧ (∀ p, runDrawn spec_l2Induced_x (opsOf (subc [1, 0] c100)) [(1, .sole), (2, .flo)] (spec_l2Induced_J7.S p) (endT spec_l2Induced_x spec_l2Induced_T2) = spec_l2Induced_D1 p) ∧ (∀ p, runDrawn spec_l2Induced_x (opsOf (subc [1, 0] c100)) [(6, .sole), (7, .sole), (8, .sole), (9, .flo)] (spec_l2Induced_J8.S p) (endT spec_l2Induced_x (.fin : DT spec_l2Induced_J1)) = spec_l2Induced_D2 p) ∧ (∀ p, runDrawn spec_l2Induced_x (opsOf (subc [1, 0] c100)) [(7, .sole)] (spec_l2Induced_J8.S p) (endT spec_l2Induced_x spec_l2Induced_T3) = spec_l2Induced_D2 p) ∧ (∀ p, runDrawn spec_l2Induced_x (opsOf (subc [1, 0] c100)) [(6, .sole), (8, .sole), (9, .flo)] (spec_l2Induced_J9.S p) (endT spec_l2Induced_x (.fin : DT spec_l2Induced_J1)) = spec_l2Induced_D3 p) ∧ (∀ p, runDrawn spec_l2Induced_x (opsOf (subc [1, 0] c100)) [(8, .sole), (6, .sole), (9, .flo)] (spec_l2Induced_J9.S p) (endT spec_l2Induced_x (.fin : DT spec_l2Induced_J1)) = spec_l2Induced_D3 p) ∧ (∀ p, runDrawn spec_l2Induced_x (opsOf (subc [1, 0] c100)) [(6, .sole)] (spec_l2Induced_J7.S p) (endT spec_l2Induced_x spec_l2Induced_T4) = spec_l2Induced_D1 p) ∧ (∀ p, runDrawn spec_l2Induced_x (opsOf (subc [1, 0] c100)) [(1, .sole), (2, .flo), (7, .sole), (8, .sole), (9, .flo)] (spec_l2Induced_J10.S p) (endT spec_l2Induced_x (.fin : DT spec_l2Induced_J1)) = spec_l2Induced_D4 p) ∧ (∀ p, runDrawn spec_l2Induced_x (opsOf (subc [1, 0] c100)) [(7, .sole), (1, .sole), (2, .flo), (8, .sole), (9, .flo)] (spec_l2Induced_J10.S p) (endT spec_l2Induced_x (.fin : DT spec_l2Induced_J1)) = spec_l2Induced_D4 p) ∧ (∀ p, runDrawn spec_l2Induced_x (opsOf (subc [1, 0] c100)) [(7, .sole)] (spec_l2Induced_J7.S p) (endT spec_l2Induced_x spec_l2Induced_T5) = spec_l2Induced_D1 p) ∧ (∀ p, runDrawn spec_l2Induced_x (opsOf (subc [1, 0] c100)) [(1, .sole), (2, .flo)] (spec_l2Induced_J11.S p) (endT spec_l2Induced_x spec_l2Induced_T3) = spec_l2Induced_D5 p) ∧ (∀ p, runDrawn spec_l2Induced_x (opsOf (subc [1, 0] c100)) [(6, .sole), (8, .sole), (9, .flo)] (spec_l2Induced_J9.S p) (endT spec_l2Induced_x (.fin : DT spec_l2Induced_J1)) = spec_l2Induced_D3 p) ∧ (∀ p, runDrawn spec_l2Induced_x (opsOf (subc [1, 0] c100)) [(8, .sole), (6, .sole), (9, .flo)] (spec_l2Induced_J9.S p) (endT spec_l2Induced_x (.fin : DT spec_l2Induced_J1)) = spec_l2Induced_D3 p) ∧ (∀ p, runDrawn spec_l2Induced_x (opsOf (subc [1, 0] c100)) [(6, .sole), (1, .sole), (2, .flo), (8, .sole), (9, .flo)] (spec_l2Induced_J11.S p) (endT spec_l2Induced_x (.fin : DT spec_l2Induced_J1)) = spec_l2Induced_D5 p) ∧ (∀ p, runDrawn spec_l2Induced_x (opsOf (subc [1, 0] c100)) [(1, .sole)] (spec_l2Induced_J6.S p) (endT spec_l2Induced_x spec_l2Induced_T6) = spec_l2Induced_D0 p) ∧ (∀ p, runDrawn spec_l2Induced_x (opsOf (subc [1, 0] c100)) [(0, .sole), (2, .flo)] (spec_l2Induced_J12.S p) (endT spec_l2Induced_x spec_l2Induced_T2) = spec_l2Induced_D6 p) ∧ (∀ p, runDrawn spec_l2Induced_x (opsOf (subc [1, 0] c100)) [(6, .sole), (7, .sole), (8, .sole), (9, .flo)] (spec_l2Induced_J8.S p) (endT spec_l2Induced_x (.fin : DT spec_l2Induced_J1)) = spec_l2Induced_D2 p) ∧ (∀ p, runDrawn spec_l2Induced_x (opsOf (subc [1, 0] c100)) [(7, .sole)] (spec_l2Induced_J8.S p) (endT spec_l2Induced_x spec_l2Induced_T3) = spec_l2Induced_D2 p) ∧ (∀ p, runDrawn spec_l2Induced_x (opsOf (subc [1, 0] c100)) [(6, .sole), (8, .sole), (9, .flo)] (spec_l2Induced_J9.S p) (endT spec_l2Induced_x (.fin : DT spec_l2Induced_J1)) = spec_l2Induced_D3 p) ∧ (∀ p, runDrawn spec_l2Induced_x (opsOf (subc [1, 0] c100)) [(8, .sole), (6, .sole), (9, .flo)] (spec_l2Induced_J9.S p) (endT spec_l2Induced_x (.fin : DT spec_l2Induced_J1)) = spec_l2Induced_D3 p) ∧ (∀ p, runDrawn spec_l2Induced_x (opsOf (subc [1, 0] c100)) [(6, .sole)] (spec_l2Induced_J12.S p) (endT spec_l2Induced_x spec_l2Induced_T7) = spec_l2Induced_D6 p) ∧ (∀ p, runDrawn spec_l2Induced_x (opsOf (subc [1, 0] c100)) [(0, .sole), (2, .flo), (7, .sole), (8, .sole), (9, .flo)] (spec_l2Induced_J13.S p) (endT spec_l2Induced_x (.fin : DT spec_l2Induced_J1)) = spec_l2Induced_D7 p) ∧ (∀ p, runDrawn spec_l2Induced_x (opsOf (subc [1, 0] c100)) [(7, .sole), (0, .sole), (2, .flo), (8, .sole), (9, .flo)] (spec_l2Induced_J13.S p) (endT spec_l2Induced_x (.fin : DT spec_l2Induced_J1)) = spec_l2Induced_D7 p) ∧ (∀ p, runDrawn spec_l2Induced_x (opsOf (subc [1, 0] c100)) [(7, .sole)] (spec_l2Induced_J12.S p) (endT spec_l2Induced_x spec_l2Induced_T8) = spec_l2Induced_D6 p) ∧ (∀ p, runDrawn spec_l2Induced_x (opsOf (subc [1, 0] c100)) [(0, .sole), (2, .flo)] (spec_l2Induced_J14.S p) (endT spec_l2Induced_x spec_l2Induced_T3) = spec_l2Induced_D8 p) ∧ (∀ p, runDrawn spec_l2Induced_x (opsOf (subc [1, 0] c100)) [(6, .sole), (8, .sole), (9, .flo)] (spec_l2Induced_J9.S p) (endT spec_l2Induced_x (.fin : DT spec_l2Induced_J1)) = spec_l2Induced_D3 p) ∧ (∀ p, runDrawn spec_l2Induced_x (opsOf (subc [1, 0] c100)) [(8, .sole), (6, .sole), (9, .flo)] (spec_l2Induced_J9.S p) (endT spec_l2Induced_x (.fin : DT spec_l2Induced_J1)) = spec_l2Induced_D3 p) ∧ (∀ p, runDrawn spec_l2Induced_x (opsOf (subc [1, 0] c100)) [(6, .sole), (0, .sole), (2, .flo), (8, .sole), (9, .flo)] (spec_l2Induced_J14.S p) (endT spec_l2Induced_x (.fin : DT spec_l2Induced_J1)) = spec_l2Induced_D8 p) ∧ (∀ p, runDrawn spec_l2Induced_x (opsOf (subc [1, 0] c100)) [(6, .sole)] (spec_l2Induced_J6.S p) (endT spec_l2Induced_x spec_l2Induced_T9) = spec_l2Induced_D0 p) ∧ (∀ p, runDrawn spec_l2Induced_x (opsOf (subc [1, 0] c100)) [(0, .sole)] (spec_l2Induced_J15.S p) (endT spec_l2Induced_x spec_l2Induced_T4) = spec_l2Induced_D9 p) ∧ (∀ p, runDrawn spec_l2Induced_x (opsOf (subc [1, 0] c100)) [(1, .sole), (2, .flo), (7, .sole), (8, .sole), (9, .flo)] (spec_l2Induced_J10.S p) (endT spec_l2Induced_x (.fin : DT spec_l2Induced_J1)) = spec_l2Induced_D4 p) ∧ (∀ p, runDrawn spec_l2Induced_x (opsOf (subc [1, 0] c100)) [(7, .sole), (1, .sole), (2, .flo), (8, .sole), (9, .flo)] (spec_l2Induced_J10.S p) (endT spec_l2Induced_x (.fin : DT spec_l2Induced_J1)) = spec_l2Induced_D4 p) ∧ (∀ p, runDrawn spec_l2Induced_x (opsOf (subc [1, 0] c100)) [(1, .sole)] (spec_l2Induced_J15.S p) (endT spec_l2Induced_x spec_l2Induced_T7) = spec_l2Induced_D9 p) ∧ (∀ p, runDrawn spec_l2Induced_x (opsOf (subc [1, 0] c100)) [(0, .sole), (2, .flo), (7, .sole), (8, .sole), (9, .flo)] (spec_l2Induced_J13.S p) (endT spec_l2Induced_x (.fin : DT spec_l2Induced_J1)) = spec_l2Induced_D7 p) ∧ (∀ p, runDrawn spec_l2Induced_x (opsOf (subc [1, 0] c100)) [(7, .sole), (0, .sole), (2, .flo), (8, .sole), (9, .flo)] (spec_l2Induced_J13.S p) (endT spec_l2Induced_x (.fin : DT spec_l2Induced_J1)) = spec_l2Induced_D7 p) ∧ (∀ p, runDrawn spec_l2Induced_x (opsOf (subc [1, 0] c100)) [(7, .sole)] (spec_l2Induced_J15.S p) (endT spec_l2Induced_x spec_l2Induced_T10) = spec_l2Induced_D9 p) ∧ (∀ p, runDrawn spec_l2Induced_x (opsOf (subc [1, 0] c100)) [(0, .sole), (1, .sole), (2, .flo), (8, .sole), (9, .flo)] (spec_l2Induced_J16.S p) (endT spec_l2Induced_x (.fin : DT spec_l2Induced_J1)) = spec_l2Induced_D10 p) ∧ (∀ p, runDrawn spec_l2Induced_x (opsOf (subc [1, 0] c100)) [(1, .sole), (0, .sole), (2, .flo), (8, .sole), (9, .flo)] (spec_l2Induced_J16.S p) (endT spec_l2Induced_x (.fin : DT spec_l2Induced_J1)) = spec_l2Induced_D10 p) ∧ (∀ p, runDrawn spec_l2Induced_x (opsOf (subc [1, 0] c100)) [(7, .sole)] (spec_l2Induced_J6.S p) (endT spec_l2Induced_x spec_l2Induced_T11) = spec_l2Induced_D0 p) ∧ (∀ p, runDrawn spec_l2Induced_x (opsOf (subc [1, 0] c100)) [(0, .sole)] (spec_l2Induced_J17.S p) (endT spec_l2Induced_x spec_l2Induced_T5) = spec_l2Induced_D11 p) ∧ (∀ p, runDrawn spec_l2Induced_x (opsOf (subc [1, 0] c100)) [(1, .sole), (2, .flo)] (spec_l2Induced_J11.S p) (endT spec_l2Induced_x spec_l2Induced_T3) = spec_l2Induced_D5 p) ∧ (∀ p, runDrawn spec_l2Induced_x (opsOf (subc [1, 0] c100)) [(6, .sole), (8, .sole), (9, .flo)] (spec_l2Induced_J9.S p) (endT spec_l2Induced_x (.fin : DT spec_l2Induced_J1)) = spec_l2Induced_D3 p) ∧ (∀ p, runDrawn spec_l2Induced_x (opsOf (subc [1, 0] c100)) [(8, .sole), (6, .sole), (9, .flo)] (spec_l2Induced_J9.S p) (endT spec_l2Induced_x (.fin : DT spec_l2Induced_J1)) = spec_l2Induced_D3 p) ∧ (∀ p, runDrawn spec_l2Induced_x (opsOf (subc [1, 0] c100)) [(6, .sole), (1, .sole), (2, .flo), (8, .sole), (9, .flo)] (spec_l2Induced_J11.S p) (endT spec_l2Induced_x (.fin : DT spec_l2Induced_J1)) = spec_l2Induced_D5 p) ∧ (∀ p, runDrawn spec_l2Induced_x (opsOf (subc [1, 0] c100)) [(1, .sole)] (spec_l2Induced_J17.S p) (endT spec_l2Induced_x spec_l2Induced_T8) = spec_l2Induced_D11 p) ∧ (∀ p, runDrawn spec_l2Induced_x (opsOf (subc [1, 0] c100)) [(0, .sole), (2, .flo)] (spec_l2Induced_J14.S p) (endT spec_l2Induced_x spec_l2Induced_T3) = spec_l2Induced_D8 p) ∧ (∀ p, runDrawn spec_l2Induced_x (opsOf (subc [1, 0] c100)) [(6, .sole), (8, .sole), (9, .flo)] (spec_l2Induced_J9.S p) (endT spec_l2Induced_x (.fin : DT spec_l2Induced_J1)) = spec_l2Induced_D3 p) ∧ (∀ p, runDrawn spec_l2Induced_x (opsOf (subc [1, 0] c100)) [(8, .sole), (6, .sole), (9, .flo)] (spec_l2Induced_J9.S p) (endT spec_l2Induced_x (.fin : DT spec_l2Induced_J1)) = spec_l2Induced_D3 p) ∧ (∀ p, runDrawn spec_l2Induced_x (opsOf (subc [1, 0] c100)) [(6, .sole), (0, .sole), (2, .flo), (8, .sole), (9, .flo)] (spec_l2Induced_J14.S p) (endT spec_l2Induced_x (.fin : DT spec_l2Induced_J1)) = spec_l2Induced_D8 p) ∧ (∀ p, runDrawn spec_l2Induced_x (opsOf (subc [1, 0] c100)) [(6, .sole)] (spec_l2Induced_J17.S p) (endT spec_l2Induced_x spec_l2Induced_T10) = spec_l2Induced_D11 p) ∧ (∀ p, runDrawn spec_l2Induced_x (opsOf (subc [1, 0] c100)) [(0, .sole), (1, .sole), (2, .flo), (8, .sole), (9, .flo)] (spec_l2Induced_J16.S p) (endT spec_l2Induced_x (.fin : DT spec_l2Induced_J1)) = spec_l2Induced_D10 p) ∧ (∀ p, runDrawn spec_l2Induced_x (opsOf (subc [1, 0] c100)) [(1, .sole), (0, .sole), (2, .flo), (8, .sole), (9, .flo)] (spec_l2Induced_J16.S p) (endT spec_l2Induced_x (.fin : DT spec_l2Induced_J1)) = spec_l2Induced_D10 p) ∧ (∀ p, run spec_l2Induced_x (subc [1, 1, 0, 1, 0, 0] c100) .nil (spec_l2Induced_J0.S p) (leaf spec_l2Induced_J0 spec_l2Induced_O0) = spec_l2Induced_B0 p) ∧ (∀ p, run spec_l2Induced_x (subc [1, 1, 1, 0, 1, 0, 0] c100) (.seq .nil (.seq (.seq .nil (.draws [(0, .flo), (2, .flo), (3, .flo), (4, .flo), (5, .flo), (6, .flo), (7, .flo), (8, .flo), (9, .flo)] spec_l2Induced_J2 spec_l2Induced_T12)) .nil)) (spec_l2Induced_J2.S p) (leaf spec_l2Induced_J2 spec_l2Induced_O1) = spec_l2Induced_B1 p) ∧ (∀ p, runDrawn spec_l2Induced_x (opsOf (subc [1, 1, 1, 0, 1, 0, 0, 1, 0, 0, 1] c100)) [(1, .sole), (10, .sole), (11, .sole), (12, .sole), (13, .flo), (14, .sole)] (spec_l2Induced_J18.S p) (endT spec_l2Induced_x (.fin : DT spec_l2Induced_J2)) = spec_l2Induced_D12 p) ∧ (∀ p, runDrawn spec_l2Induced_x (opsOf (subc [1, 1, 1, 0, 1, 0, 0, 1, 0, 0, 1] c100)) [(10, .sole), (1, .qui), (11, .sole), (12, .sole), (13, .flo), (14, .sole)] (spec_l2Induced_J18.S p) (endT spec_l2Induced_x (.fin : DT spec_l2Induced_J2)) = spec_l2Induced_D12 p) ∧ (∀ p, run spec_l2Induced_x (subc [1, 1, 1, 1, 0, 1, 0, 0] c100) (.seq .nil (.seq (.seq (.draw [(0, .flo), (1, .flo), (2, .flo), (3, .flo), (4, .flo), (5, .flo), (6, .flo), (7, .flo), (9, .flo), (10, .flo), (11, .flo), (12, .flo), (13, .flo), (14, .flo), (15, .flo), (16, .flo), (8, .qui), (18, .flo), (17, .qui), (19, .flo)]) .nil) .nil)) (spec_l2Induced_J4.S p) (leaf spec_l2Induced_J4 spec_l2Induced_O2) = spec_l2Induced_B2 p) ∧ True), by kernel_rfl, fun x y => by kernel_rfl⟩
theorem spec_l2Induced_s : spec_l2Induced_D.Says Try.prog := spec_l2Induced_w.says follows tabOk spec_l1Own_e_ok
noncomputable def spec_l2Induced_e : Env := more spec_l1Own_e spec_l2Induced_D
theorem spec_l2Induced_e_ok : EnvOk Try.prog spec_l2Induced_e := more_ok spec_l1Own_e_ok spec_l2Induced_s
/-! loop.example/g01128/spec.l2Walk -/
abbrev spec_l2Walk_J0 : Tpl := ⟨[(1, .val I), (2, .val I), (7, .val (.list (.list I))), (8, .val (.list I)), (9, .own .shr I), (10, .val I)], [], []⟩
abbrev spec_l2Walk_J1 : Tpl := ⟨[(1, .val I), (2, .val I), (7, .val (.list (.list I))), (8, .val (.list I)), (9, .own .shr I)], [], []⟩
abbrev spec_l2Walk_J2 : Tpl := ⟨[(9, .own .shr I)], [], []⟩
abbrev spec_l2Walk_E : Ve.End := ⟨[⟨6, (.own .shr), (.list I), none⟩], []⟩
abbrev spec_l2Walk_a : List ASh := [.val (.prod (.list (.list I)) (.list (.prod I I))), .val I, .val I]
abbrev spec_l2Walk_o : List OSh := []
abbrev spec_l2Walk_O0 : Out := .one (.ex 2) spec_l2Walk_J0
noncomputable def spec_l2Walk_B0 : spec_l2Walk_J0.P → Option (spec_l2Walk_J0.P ⊕ spec_l2Walk_O0.P)
  | ((i, j, lists, dist, out, k, ()), ()) => guardB (inb i (List.length lists)) (guardB (inb k (List.length (List.getD lists (Int.toNat i) ([] : (List Int))))) (guardB (inb (List.getD (List.getD lists (Int.toNat i) ([] : (List Int))) (Int.toNat k) (0 : Int)) (List.length dist)) (guardB (inb i (List.length dist)) (bif ((List.getD dist (Int.toNat (List.getD (List.getD lists (Int.toNat i) ([] : (List Int))) (Int.toNat k) (0 : Int))) (0 : Int)) != (w64 ((List.getD dist (Int.toNat i) (0 : Int)) - (1 : Int)))) then (some (.inl ((i, j, lists, dist, out, (w64 (k + (1 : Int))), ()), ()))) else (some (.inr ((i, j, lists, dist, out, k, ()), ())))))))
abbrev spec_l2Walk_O1 : Out := .one (.ex 0) spec_l2Walk_J2
noncomputable def spec_l2Walk_B1 : spec_l2Walk_J1.P → Option (spec_l2Walk_J1.P ⊕ spec_l2Walk_O1.P)
  | ((i, j, lists, dist, out, ()), ()) => bif (i != j) then (match loopO spec_l2Walk_B0 ((i, j, lists, dist, out, (0 : Int), ()), ()) with | some ((i2, j2, lists2, dist2, out2, k, ()), ()) => guardB (inb i2 (List.length lists2)) (guardB (inb k (List.length (List.getD lists2 (Int.toNat i2) ([] : (List Int))))) (guardB (decide ((List.length out2 + List.length [(List.getD (List.getD lists2 (Int.toNat i2) ([] : (List Int))) (Int.toNat k) (0 : Int))]) * 8 ≤ 70368744177664)) (some (.inl (((List.getD (List.getD lists2 (Int.toNat i2) ([] : (List Int))) (Int.toNat k) (0 : Int)), j2, lists2, dist2, (out2 ++ [(List.getD (List.getD lists2 (Int.toNat i2) ([] : (List Int))) (Int.toNat k) (0 : Int))]), ()), ()))))) | none => none) else (some (.inr ((out, ()), ())))
noncomputable def spec_l2Walk : argP spec_l2Walk_a → obP (extObs 0 spec_l2Walk_o) → Option spec_l2Walk_E.P
  | (x, i, j, ()), () => match spec_l2Lists (x, ()) () with | some ((r, ()), ()) => (match spec_l2Spread (r, j, ()) () with | some ((r2, ()), ()) => guardB (inb i (List.length r2)) (bif (decide ((List.getD r2 (Int.toNat i) (0 : Int)) < (0 : Int))) then (some ((([] : (List Int)), ()), ())) else (match loopO spec_l2Walk_B1 ((i, j, r, r2, [i], ()), ()) with | some ((out, ()), ()) => some ((out, ()), ()) | none => none)) | none => none) | none => none
noncomputable def spec_l2Walk_x : Cx := ⟨tab, spec_l2Induced_e, fun _ _ => 0, fun _ => false, [(12, 0), (12, 1), (12, 2), (12, 3), (7, 0), (15, 0), (15, 1), (15, 2), (15, 3), (8, 0), (21, 0), (54, 0)], [(3, 0)]⟩
noncomputable def c149 : Code := bodyOf Try.f149
noncomputable def spec_l2Walk_A : Ann := .seq .nil (.seq .nil (.seq .nil (.seq .nil (.seq .nil (.seq (.loop spec_l2Walk_J1 spec_l2Walk_O1 spec_l2Walk_B1 (.seq .nil (.seq .nil (.seq (.loop spec_l2Walk_J0 spec_l2Walk_O0 spec_l2Walk_B0 (.seq (.seq (.draw [(0, .flo), (1, .flo), (2, .flo), (3, .flo), (4, .flo), (5, .flo), (6, .flo), (7, .flo), (8, .flo), (9, .flo), (10, .flo), (11, .flo), (12, .flo), (13, .flo), (14, .flo), (15, .flo)]) .nil) .nil)) .nil)))) .nil)))))
theorem spec_l2Walk_r0 (p : spec_l2Walk_J1.P) : run spec_l2Walk_x (subc [1, 1, 1, 1, 1, 0, 0, 0] c149) (.seq .nil (.seq .nil (.seq (.loop spec_l2Walk_J0 spec_l2Walk_O0 spec_l2Walk_B0 (.seq (.seq (.draw [(0, .flo), (1, .flo), (2, .flo), (3, .flo), (4, .flo), (5, .flo), (6, .flo), (7, .flo), (8, .flo), (9, .flo), (10, .flo), (11, .flo), (12, .flo), (13, .flo), (14, .flo), (15, .flo)]) .nil) .nil)) .nil))) (spec_l2Walk_J1.S p) (leaf spec_l2Walk_J1 spec_l2Walk_O1) = spec_l2Walk_B1 p := by kernel_rfl
theorem spec_l2Walk_r1 (p : spec_l2Walk_J0.P) : run spec_l2Walk_x (subc [1, 1, 1, 1, 1, 0, 0, 0, 1, 0, 1, 0, 0, 0] c149) (.seq (.seq (.draw [(0, .flo), (1, .flo), (2, .flo), (3, .flo), (4, .flo), (5, .flo), (6, .flo), (7, .flo), (8, .flo), (9, .flo), (10, .flo), (11, .flo), (12, .flo), (13, .flo), (14, .flo), (15, .flo)]) .nil) .nil) (spec_l2Walk_J0.S p) (leaf spec_l2Walk_J0 spec_l2Walk_O0) = spec_l2Walk_B0 p := by kernel_rfl
noncomputable def spec_l2Walk_D : Ve.Fn := ⟨149, spec_l2Walk_a, spec_l2Walk_o, spec_l2Walk_E, spec_l2Walk⟩
theorem spec_l2Walk_w : Walk Try.prog spec_l2Walk_x spec_l2Walk_D Try.f149 c149 57 spec_l2Walk_A :=
  ⟨⟨Try.func149, by kernel_rfl, by kernel_rfl, by kernel_rfl, by decide, by kernel_rfl, Nat.le_of_ble_eq_true (by kernel_rfl)⟩, by kernel_rfl, by kernel_rfl, by kernel_rfl, kcast (by kernel_rfl) (⟨spec_l2Walk_r0, spec_l2Walk_r1, trivial⟩ : (∀ p, run spec_l2Walk_x (subc [1, 1, 1, 1, 1, 0, 0, 0] c149) (.seq .nil (.seq .nil (.seq (.loop spec_l2Walk_J0 spec_l2Walk_O0 spec_l2Walk_B0 (.seq (.seq (.draw [(0, .flo), (1, .flo), (2, .flo), (3, .flo), (4, .flo), (5, .flo), (6, .flo), (7, .flo), (8, .flo), (9, .flo), (10, .flo), (11, .flo), (12, .flo), (13, .flo), (14, .flo), (15, .flo)]) .nil) .nil)) .nil))) (spec_l2Walk_J1.S p) (leaf spec_l2Walk_J1 spec_l2Walk_O1) = spec_l2Walk_B1 p) ∧ (∀ p, run spec_l2Walk_x (subc [1, 1, 1, 1, 1, 0, 0, 0, 1, 0, 1, 0, 0, 0] c149) (.seq (.seq (.draw [(0, .flo), (1, .flo), (2, .flo), (3, .flo), (4, .flo), (5, .flo), (6, .flo), (7, .flo), (8, .flo), (9, .flo), (10, .flo), (11, .flo), (12, .flo), (13, .flo), (14, .flo), (15, .flo)]) .nil) .nil) (spec_l2Walk_J0.S p) (leaf spec_l2Walk_J0 spec_l2Walk_O0) = spec_l2Walk_B0 p) ∧ True), by kernel_rfl, fun x y => by kernel_rfl⟩
theorem spec_l2Walk_s : spec_l2Walk_D.Says Try.prog := spec_l2Walk_w.says follows tabOk spec_l2Induced_e_ok
noncomputable def spec_l2Walk_e : Env := more spec_l2Induced_e spec_l2Walk_D
theorem spec_l2Walk_e_ok : EnvOk Try.prog spec_l2Walk_e := more_ok spec_l2Induced_e_ok spec_l2Walk_s
/-! loop.example/g01128/spec.l11Low -/
abbrev spec_l11Low_J0 : Tpl := ⟨[(2, .val I), (3, .val I), (11, .val (.list I)), (12, .cst (.prod (.list (.list I)) (.list (.prod I I)))), (13, .val I), (14, .val I), (15, .own .shr I), (16, .val I)], [], []⟩
abbrev spec_l11Low_J1 : Tpl := ⟨[(11, .val (.list I)), (12, .cst (.prod (.list (.list I)) (.list (.prod I I)))), (13, .val I), (14, .val I), (15, .own .shr I)], [], []⟩
abbrev spec_l11Low_J2 : Tpl := ⟨[(11, .val (.list I)), (15, .own .shr I), (17, .val (.list I)), (18, .val I)], [], []⟩
abbrev spec_l11Low_J3 : Tpl := ⟨[(15, .own .shr I)], [], []⟩
abbrev spec_l11Low_E : Ve.End := ⟨[⟨10, (.own .shr), (.list I), none⟩], []⟩
abbrev spec_l11Low_a : List ASh := [.val (.prod (.list (.list I)) (.list (.prod I I))), .val (.list I), .val I, .val I, .val I]
abbrev spec_l11Low_o : List OSh := []
abbrev spec_l11Low_O0 : Out := .one (.ex 0) spec_l11Low_J1
noncomputable def spec_l11Low_B0 : spec_l11Low_J0.P → Option (spec_l11Low_J0.P ⊕ spec_l11Low_O0.P)
  | ((t2, t3, t11, t12, t13, t14, t15, t16, ()), ()) => bif (decide (t16 < (List.length t11 : Int))) then (guardB (inb t16 (List.length t11)) (bif ((List.getD t11 (Int.toNat t16) (0 : Int)) == t2) then (guardB (inb t16 (List.length t11)) (bif ((List.getD t11 (Int.toNat t16) (0 : Int)) == t3) then (some (.inl ((t2, t3, t11, t12, t16, t16, t15, (w64 (t16 + (1 : Int))), ()), ()))) else (some (.inl ((t2, t3, t11, t12, t16, t14, t15, (w64 (t16 + (1 : Int))), ()), ()))))) else (guardB (inb t16 (List.length t11)) (bif ((List.getD t11 (Int.toNat t16) (0 : Int)) == t3) then (some (.inl ((t2, t3, t11, t12, t13, t16, t15, (w64 (t16 + (1 : Int))), ()), ()))) else (some (.inl ((t2, t3, t11, t12, t13, t14, t15, (w64 (t16 + (1 : Int))), ()), ()))))))) else (some (.inr ((t11, t12, t13, t14, t15, ()), ())))
abbrev spec_l11Low_O1 : Out := .one (.ex 2) spec_l11Low_J3
noncomputable def spec_l11Low_B1 : spec_l11Low_J2.P → Option (spec_l11Low_J2.P ⊕ spec_l11Low_O1.P)
  | ((t11, t15, t17, t18, ()), ()) => bif (decide (t18 < (List.length t17 : Int))) then (guardB (inb t18 (List.length t17)) (guardB (inb (List.getD t17 (Int.toNat t18) (0 : Int)) (List.length t11)) (guardB (decide ((List.length t15 + List.length [(List.getD t11 (Int.toNat (List.getD t17 (Int.toNat t18) (0 : Int))) (0 : Int))]) * 8 ≤ 70368744177664)) (some (.inl ((t11, (t15 ++ [(List.getD t11 (Int.toNat (List.getD t17 (Int.toNat t18) (0 : Int))) (0 : Int))]), t17, (w64 (t18 + (1 : Int))), ()), ())))))) else (some (.inr ((t15, ()), ())))
noncomputable def spec_l11Low : argP spec_l11Low_a → obP (extObs 0 spec_l11Low_o) → Option spec_l11Low_E.P
  | (t0, t1, t2, t3, t4, ()), () => match spec_l11Under (t1, t4, ()) () with | some ((r, ()), ()) => (match spec_l2Induced (t0, r, ()) () with | some ((r2, ()), ()) => (match loopO spec_l11Low_B0 ((t2, t3, r, (r2.1, r2.2), (-1 : Int), (-1 : Int), ([] : (List Int)), (0 : Int), ()), ()) with | some ((t11, t12, t13, t14, t15, ()), ()) => (bif (decide (t13 < (0 : Int))) then (some ((t15, ()), ())) else (bif (decide (t14 < (0 : Int))) then (some ((t15, ()), ())) else (match spec_l2Walk (t12, t13, t14, ()) () with | some ((r3, ()), ()) => (match loopO spec_l11Low_B1 ((t11, t15, r3, (0 : Int), ()), ()) with | some ((t15_2, ()), ()) => some ((t15_2, ()), ()) | none => none) | none => none))) | none => none) | none => none) | none => none
noncomputable def spec_l11Low_x : Cx := ⟨tab, spec_l2Walk_e, fun _ _ => 0, fun _ => false, [(21, 0), (21, 1), (21, 2), (21, 3), (11, 0), (56, 0), (56, 1), (56, 2), (56, 3), (17, 0), (71, 0)], [(5, 0), (12, 0)]⟩
noncomputable def c110 : Code := bodyOf Try.f110
noncomputable def spec_l11Low_A : Ann := .seq .nil (.seq .nil (.seq .nil (.seq (.seq .nil (.loop spec_l11Low_J0 spec_l11Low_O0 spec_l11Low_B0 .nil)) (.seq .nil (.seq .nil (.seq (.seq .nil (.loop spec_l11Low_J2 spec_l11Low_O1 spec_l11Low_B1 .nil)) .nil))))))
theorem spec_l11Low_r0 (p : spec_l11Low_J0.P) : run spec_l11Low_x (subc [1, 1, 1, 0, 1, 0, 0] c110) .nil (spec_l11Low_J0.S p) (leaf spec_l11Low_J0 spec_l11Low_O0) = spec_l11Low_B0 p := by kernel_rfl
theorem spec_l11Low_r1 (p : spec_l11Low_J2.P) : run spec_l11Low_x (subc [1, 1, 1, 1, 1, 1, 0, 1, 0, 0] c110) .nil (spec_l11Low_J2.S p) (leaf spec_l11Low_J2 spec_l11Low_O1) = spec_l11Low_B1 p := by kernel_rfl
noncomputable def spec_l11Low_D : Ve.Fn := ⟨110, spec_l11Low_a, spec_l11Low_o, spec_l11Low_E, spec_l11Low⟩
theorem spec_l11Low_w : Walk Try.prog spec_l11Low_x spec_l11Low_D Try.f110 c110 74 spec_l11Low_A :=
  ⟨⟨Try.func110, by kernel_rfl, by kernel_rfl, by kernel_rfl, by decide, by kernel_rfl, Nat.le_of_ble_eq_true (by kernel_rfl)⟩, by kernel_rfl, by kernel_rfl, by kernel_rfl, kcast (by kernel_rfl) (⟨spec_l11Low_r0, spec_l11Low_r1, trivial⟩ : (∀ p, run spec_l11Low_x (subc [1, 1, 1, 0, 1, 0, 0] c110) .nil (spec_l11Low_J0.S p) (leaf spec_l11Low_J0 spec_l11Low_O0) = spec_l11Low_B0 p) ∧ (∀ p, run spec_l11Low_x (subc [1, 1, 1, 1, 1, 1, 0, 1, 0, 0] c110) .nil (spec_l11Low_J2.S p) (leaf spec_l11Low_J2 spec_l11Low_O1) = spec_l11Low_B1 p) ∧ True), by kernel_rfl, fun x y => by kernel_rfl⟩
theorem spec_l11Low_s : spec_l11Low_D.Says Try.prog := spec_l11Low_w.says follows tabOk spec_l2Walk_e_ok
noncomputable def spec_l11Low_e : Env := more spec_l2Walk_e spec_l11Low_D
theorem spec_l11Low_e_ok : EnvOk Try.prog spec_l11Low_e := more_ok spec_l2Walk_e_ok spec_l11Low_s
/-! loop.example/g01128/spec.l11Peak -/
abbrev spec_l11Peak_J0 : Tpl := ⟨[(1, .val (.list I)), (2, .val I), (3, .val I), (4, .cst (.prod (.list (.list I)) (.list (.prod I I)))), (9, .val I), (10, .val I)], [], []⟩
abbrev spec_l11Peak_J1 : Tpl := ⟨[(9, .val I)], [], []⟩
abbrev spec_l11Peak_E : Ve.End := ⟨[⟨8, .shr, I, none⟩], []⟩
abbrev spec_l11Peak_a : List ASh := [.val (.prod (.list (.list I)) (.list (.prod I I))), .val (.list I), .val I, .val I]
abbrev spec_l11Peak_o : List OSh := []
abbrev spec_l11Peak_O0 : Out := .one (.ex 0) spec_l11Peak_J1
noncomputable def spec_l11Peak_B0 : spec_l11Peak_J0.P → Option (spec_l11Peak_J0.P ⊕ spec_l11Peak_O0.P)
  | ((heights, i, j, x, best, k, ()), ()) => bif (decide (k < (List.length heights : Int))) then (bif (decide (best < (0 : Int))) then (guardB (inb k (List.length heights)) (match spec_l11Low (x, heights, i, j, (List.getD heights (Int.toNat k) (0 : Int)), ()) () with | some ((r, ()), ()) => (bif (decide ((0 : Int) < (List.length r : Int))) then (guardB (inb k (List.length heights)) (some (.inl ((heights, i, j, x, (List.getD heights (Int.toNat k) (0 : Int)), (w64 (k + (1 : Int))), ()), ())))) else (some (.inl ((heights, i, j, x, best, (w64 (k + (1 : Int))), ()), ())))) | none => none)) else (guardB (inb k (List.length heights)) (bif (decide ((List.getD heights (Int.toNat k) (0 : Int)) < best)) then (guardB (inb k (List.length heights)) (match spec_l11Low (x, heights, i, j, (List.getD heights (Int.toNat k) (0 : Int)), ()) () with | some ((r2, ()), ()) => (bif (decide ((0 : Int) < (List.length r2 : Int))) then (guardB (inb k (List.length heights)) (some (.inl ((heights, i, j, x, (List.getD heights (Int.toNat k) (0 : Int)), (w64 (k + (1 : Int))), ()), ())))) else (some (.inl ((heights, i, j, x, best, (w64 (k + (1 : Int))), ()), ())))) | none => none)) else (some (.inl ((heights, i, j, x, best, (w64 (k + (1 : Int))), ()), ())))))) else (some (.inr ((best, ()), ())))
noncomputable def spec_l11Peak : argP spec_l11Peak_a → obP (extObs 0 spec_l11Peak_o) → Option spec_l11Peak_E.P
  | (x, heights, i, j, ()), () => match loopO spec_l11Peak_B0 ((heights, i, j, x, (-1 : Int), (0 : Int), ()), ()) with | some ((best, ()), ()) => some ((best, ()), ()) | none => none
noncomputable def spec_l11Peak_x : Cx := ⟨tab, spec_l11Low_e, fun _ _ => 0, fun _ => false, [(36, 0), (36, 1), (36, 2), (36, 3)], [(4, 0)]⟩
noncomputable def c108 : Code := bodyOf Try.f108
noncomputable def spec_l11Peak_A : Ann := .seq .nil (.seq .nil (.seq (.seq .nil (.loop spec_l11Peak_J0 spec_l11Peak_O0 spec_l11Peak_B0 (.seq .nil (.seq (.seq (.draw [(0, .flo), (1, .flo), (2, .flo), (3, .flo), (4, .flo), (5, .flo), (7, .flo), (6, .qui), (8, .flo), (9, .flo), (10, .flo), (11, .flo), (12, .flo), (13, .flo), (14, .flo), (15, .flo), (16, .flo), (17, .flo), (18, .flo), (19, .sole), (20, .flo), (21, .flo), (22, .flo)]) .nil) .nil)))) .nil))
theorem spec_l11Peak_r0 (p : spec_l11Peak_J0.P) : run spec_l11Peak_x (subc [1, 1, 0, 1, 0, 0] c108) (.seq .nil (.seq (.seq (.draw [(0, .flo), (1, .flo), (2, .flo), (3, .flo), (4, .flo), (5, .flo), (7, .flo), (6, .qui), (8, .flo), (9, .flo), (10, .flo), (11, .flo), (12, .flo), (13, .flo), (14, .flo), (15, .flo), (16, .flo), (17, .flo), (18, .flo), (19, .sole), (20, .flo), (21, .flo), (22, .flo)]) .nil) .nil)) (spec_l11Peak_J0.S p) (leaf spec_l11Peak_J0 spec_l11Peak_O0) = spec_l11Peak_B0 p := by kernel_rfl
noncomputable def spec_l11Peak_D : Ve.Fn := ⟨108, spec_l11Peak_a, spec_l11Peak_o, spec_l11Peak_E, spec_l11Peak⟩
theorem spec_l11Peak_w : Walk Try.prog spec_l11Peak_x spec_l11Peak_D Try.f108 c108 45 spec_l11Peak_A :=
  ⟨⟨Try.func108, by kernel_rfl, by kernel_rfl, by kernel_rfl, by decide, by kernel_rfl, Nat.le_of_ble_eq_true (by kernel_rfl)⟩, by kernel_rfl, by kernel_rfl, by kernel_rfl, kcast (by kernel_rfl) (⟨spec_l11Peak_r0, trivial⟩ : (∀ p, run spec_l11Peak_x (subc [1, 1, 0, 1, 0, 0] c108) (.seq .nil (.seq (.seq (.draw [(0, .flo), (1, .flo), (2, .flo), (3, .flo), (4, .flo), (5, .flo), (7, .flo), (6, .qui), (8, .flo), (9, .flo), (10, .flo), (11, .flo), (12, .flo), (13, .flo), (14, .flo), (15, .flo), (16, .flo), (17, .flo), (18, .flo), (19, .sole), (20, .flo), (21, .flo), (22, .flo)]) .nil) .nil)) (spec_l11Peak_J0.S p) (leaf spec_l11Peak_J0 spec_l11Peak_O0) = spec_l11Peak_B0 p) ∧ True), by kernel_rfl, fun x y => by kernel_rfl⟩
theorem spec_l11Peak_s : spec_l11Peak_D.Says Try.prog := spec_l11Peak_w.says follows tabOk spec_l11Low_e_ok
noncomputable def spec_l11Peak_e : Env := more spec_l11Low_e spec_l11Peak_D
theorem spec_l11Peak_e_ok : EnvOk Try.prog spec_l11Peak_e := more_ok spec_l11Low_e_ok spec_l11Peak_s
/-! loop.example/g01128/spec.LeastPeak -/
abbrev spec_LeastPeak_E : Ve.End := ⟨[⟨8, .shr, I, none⟩, ⟨9, .shr, .bool, none⟩], []⟩
abbrev spec_LeastPeak_a : List ASh := [.val (.prod (.list (.list I)) (.list (.prod I I))), .val (.list I), .val I, .val I]
abbrev spec_LeastPeak_o : List OSh := []
noncomputable def spec_LeastPeak : argP spec_LeastPeak_a → obP (extObs 0 spec_LeastPeak_o) → Option spec_LeastPeak_E.P
  | (x, heights, i, j, ()), () => match spec_l11Ends (x, heights, i, j, ()) () with | some ((r, ()), ()) => (bif (!r) then (some (((0 : Int), false, ()), ())) else (match spec_l11Peak (x, heights, i, j, ()) () with | some ((r2, ()), ()) => some ((r2, true, ()), ()) | none => none)) | none => none
noncomputable def spec_LeastPeak_x : Cx := ⟨tab, spec_l11Peak_e, fun _ _ => 0, fun _ => false, [(14, 0), (14, 1), (14, 2), (14, 3), (20, 0), (20, 1), (20, 2), (20, 3)], [(4, 0)]⟩
noncomputable def c48 : Code := bodyOf Try.f48
noncomputable def spec_LeastPeak_A : Ann := .nil
noncomputable def spec_LeastPeak_D : Ve.Fn := ⟨48, spec_LeastPeak_a, spec_LeastPeak_o, spec_LeastPeak_E, spec_LeastPeak⟩
theorem spec_LeastPeak_w : Walk Try.prog spec_LeastPeak_x spec_LeastPeak_D Try.f48 c48 21 spec_LeastPeak_A :=
  ⟨⟨Try.func48, by kernel_rfl, by kernel_rfl, by kernel_rfl, by decide, by kernel_rfl, Nat.le_of_ble_eq_true (by kernel_rfl)⟩, by kernel_rfl, by kernel_rfl, by kernel_rfl, kcast (by kernel_rfl) trivial, by kernel_rfl, fun x y => by kernel_rfl⟩
theorem spec_LeastPeak_s : spec_LeastPeak_D.Says Try.prog := spec_LeastPeak_w.says follows tabOk spec_l11Peak_e_ok
noncomputable def spec_LeastPeak_e : Env := more spec_l11Peak_e spec_LeastPeak_D
theorem spec_LeastPeak_e_ok : EnvOk Try.prog spec_LeastPeak_e := more_ok spec_l11Peak_e_ok spec_LeastPeak_s
/-! loop.example/g01128/impl.between -/
abbrev impl_between_E : Ve.End := ⟨[⟨6, .shr, .bool, none⟩], []⟩
abbrev impl_between_a : List ASh := [.val I, .val I, .val I]
abbrev impl_between_o : List OSh := []
noncomputable def impl_between : argP impl_between_a → obP (extObs 0 impl_between_o) → Option impl_between_E.P
  | (n, low, high, ()), () => bif (decide (low ≤ n)) then (some (((decide (n ≤ high)), ()), ())) else (some ((false, ()), ()))
noncomputable def impl_between_x : Cx := ⟨tab, spec_LeastPeak_e, fun _ _ => 0, fun _ => false, [], []⟩
noncomputable def c64 : Code := bodyOf Try.f64
noncomputable def impl_between_A : Ann := .nil
noncomputable def impl_between_D : Ve.Fn := ⟨64, impl_between_a, impl_between_o, impl_between_E, impl_between⟩
theorem impl_between_w : Walk Try.prog impl_between_x impl_between_D Try.f64 c64 15 impl_between_A :=
  ⟨⟨Try.func64, by kernel_rfl, by kernel_rfl, by kernel_rfl, by decide, by kernel_rfl, Nat.le_of_ble_eq_true (by kernel_rfl)⟩, by kernel_rfl, by kernel_rfl, by kernel_rfl, kcast (by kernel_rfl) trivial, by kernel_rfl, fun x y => by kernel_rfl⟩
theorem impl_between_s : impl_between_D.Says Try.prog := impl_between_w.says follows tabOk spec_LeastPeak_e_ok
noncomputable def impl_between_e : Env := more spec_LeastPeak_e impl_between_D
theorem impl_between_e_ok : EnvOk Try.prog impl_between_e := more_ok spec_LeastPeak_e_ok impl_between_s
/-! loop.example/g01128/impl.isState$1 -/
abbrev impl_isState_1_E : Ve.End := ⟨[⟨2, .shr, .bool, none⟩], []⟩
abbrev impl_isState_1_a : List ASh := [.val I]
abbrev impl_isState_1_o : List OSh := []
noncomputable def impl_isState_1 : argP impl_isState_1_a → obP (extObs 0 impl_isState_1_o) → Option impl_isState_1_E.P
  | (n, ()), () => match impl_between (n, (-99 : Int), (99 : Int), ()) () with | some ((r, ()), ()) => some (((!r), ()), ()) | none => none
noncomputable def impl_isState_1_x : Cx := ⟨tab, impl_between_e, fun _ _ => 0, fun _ => false, [(4, 0), (4, 1), (4, 2), (4, 3)], []⟩
noncomputable def c151 : Code := bodyOf Try.f151
noncomputable def impl_isState_1_A : Ann := .nil
noncomputable def impl_isState_1_D : Ve.Fn := ⟨151, impl_isState_1_a, impl_isState_1_o, impl_isState_1_E, impl_isState_1⟩
theorem impl_isState_1_w : Walk Try.prog impl_isState_1_x impl_isState_1_D Try.f151 c151 6 impl_isState_1_A :=
  ⟨⟨Try.func151, by kernel_rfl, by kernel_rfl, by kernel_rfl, by decide, by kernel_rfl, Nat.le_of_ble_eq_true (by kernel_rfl)⟩, by kernel_rfl, by kernel_rfl, by kernel_rfl, kcast (by kernel_rfl) trivial, by kernel_rfl, fun x y => by kernel_rfl⟩
theorem impl_isState_1_s : impl_isState_1_D.Says Try.prog := impl_isState_1_w.says follows tabOk impl_between_e_ok
noncomputable def impl_isState_1_e : Env := more impl_between_e impl_isState_1_D
theorem impl_isState_1_e_ok : EnvOk Try.prog impl_isState_1_e := more_ok impl_between_e_ok impl_isState_1_s
/-! slices.IndexFunc[[]int,int] -/
abbrev slices_IndexFunc_int_int_2_vf_impl_isState_1_J0 : Tpl := ⟨[(0, .val (.list I)), (1, .fn ⟨151, []⟩), (7, .val I), (8, .val I)], [], []⟩
abbrev slices_IndexFunc_int_int_2_vf_impl_isState_1_J1 : Tpl := ⟨[(4, .val I)], [], []⟩
abbrev slices_IndexFunc_int_int_2_vf_impl_isState_1_J2 : Tpl := ⟨[], [], []⟩
abbrev slices_IndexFunc_int_int_2_vf_impl_isState_1_E : Ve.End := ⟨[⟨4, .shr, I, none⟩], []⟩
abbrev slices_IndexFunc_int_int_2_vf_impl_isState_1_a : List ASh := [.val (.list I), .fn 151 []]
abbrev slices_IndexFunc_int_int_2_vf_impl_isState_1_o : List OSh := []
abbrev slices_IndexFunc_int_int_2_vf_impl_isState_1_O0 : Out := .or .ret slices_IndexFunc_int_int_2_vf_impl_isState_1_J1 (.one (.ex 0) slices_IndexFunc_int_int_2_vf_impl_isState_1_J2)
noncomputable def slices_IndexFunc_int_int_2_vf_impl_isState_1_B0 : slices_IndexFunc_int_int_2_vf_impl_isState_1_J0.P → Option (slices_IndexFunc_int_int_2_vf_impl_isState_1_J0.P ⊕ slices_IndexFunc_int_int_2_vf_impl_isState_1_O0.P)
  | ((s, t7, t8, ()), ()) => bif (decide (t8 < t7)) then (guardB (inb t8 (List.length s)) (match impl_isState_1 ((List.getD s (Int.toNat t8) (0 : Int)), ()) () with | some ((r, ()), ()) => (bif r then (some (.inr (.inl ((t8, ()), ())))) else (some (.inl ((s, t7, (w64 (t8 + (1 : Int))), ()), ())))) | none => none)) else (some (.inr (.inr ((), ()))))
noncomputable def slices_IndexFunc_int_int_2_vf_impl_isState_1 : argP slices_IndexFunc_int_int_2_vf_impl_isState_1_a → obP (extObs 0 slices_IndexFunc_int_int_2_vf_impl_isState_1_o) → Option slices_IndexFunc_int_int_2_vf_impl_isState_1_E.P
  | (s, ()), () => match loopO slices_IndexFunc_int_int_2_vf_impl_isState_1_B0 ((s, (List.length s : Int), (0 : Int), ()), ()) with | some (.inl ((t4, ()), ())) => some ((t4, ()), ()) | some (.inr ((), ())) => some (((-1 : Int), ()), ()) | none => none
noncomputable def slices_IndexFunc_int_int_2_vf_impl_isState_1_x : Cx := ⟨tab, impl_isState_1_e, fun _ _ => 0, fun _ => false, [(16, 0), (16, 1), (16, 2), (16, 3)], []⟩
noncomputable def c154 : Code := bodyOf Try.f154
noncomputable def slices_IndexFunc_int_int_2_vf_impl_isState_1_A : Ann := .seq .nil (.seq (.seq .nil (.loop slices_IndexFunc_int_int_2_vf_impl_isState_1_J0 slices_IndexFunc_int_int_2_vf_impl_isState_1_O0 slices_IndexFunc_int_int_2_vf_impl_isState_1_B0 .nil)) .nil)
theorem slices_IndexFunc_int_int_2_vf_impl_isState_1_r0 (p : slices_IndexFunc_int_int_2_vf_impl_isState_1_J0.P) : run slices_IndexFunc_int_int_2_vf_impl_isState_1_x (subc [1, 0, 1, 0, 0] c154) .nil (slices_IndexFunc_int_int_2_vf_impl_isState_1_J0.S p) (leaf slices_IndexFunc_int_int_2_vf_impl_isState_1_J0 slices_IndexFunc_int_int_2_vf_impl_isState_1_O0) = slices_IndexFunc_int_int_2_vf_impl_isState_1_B0 p := by kernel_rfl
noncomputable def slices_IndexFunc_int_int_2_vf_impl_isState_1_D : Ve.Fn := ⟨154, slices_IndexFunc_int_int_2_vf_impl_isState_1_a, slices_IndexFunc_int_int_2_vf_impl_isState_1_o, slices_IndexFunc_int_int_2_vf_impl_isState_1_E, slices_IndexFunc_int_int_2_vf_impl_isState_1⟩
theorem slices_IndexFunc_int_int_2_vf_impl_isState_1_w : Walk Try.prog slices_IndexFunc_int_int_2_vf_impl_isState_1_x slices_IndexFunc_int_int_2_vf_impl_isState_1_D Try.f154 c154 19 slices_IndexFunc_int_int_2_vf_impl_isState_1_A :=
  ⟨⟨Try.func154, by kernel_rfl, by kernel_rfl, by kernel_rfl, by decide, by kernel_rfl, Nat.le_of_ble_eq_true (by kernel_rfl)⟩, by kernel_rfl, by kernel_rfl, by kernel_rfl, kcast (by kernel_rfl) (⟨slices_IndexFunc_int_int_2_vf_impl_isState_1_r0, trivial⟩ : (∀ p, run slices_IndexFunc_int_int_2_vf_impl_isState_1_x (subc [1, 0, 1, 0, 0] c154) .nil (slices_IndexFunc_int_int_2_vf_impl_isState_1_J0.S p) (leaf slices_IndexFunc_int_int_2_vf_impl_isState_1_J0 slices_IndexFunc_int_int_2_vf_impl_isState_1_O0) = slices_IndexFunc_int_int_2_vf_impl_isState_1_B0 p) ∧ True), by kernel_rfl, fun x y => by kernel_rfl⟩
theorem slices_IndexFunc_int_int_2_vf_impl_isState_1_s : slices_IndexFunc_int_int_2_vf_impl_isState_1_D.Says Try.prog := slices_IndexFunc_int_int_2_vf_impl_isState_1_w.says follows tabOk impl_isState_1_e_ok
noncomputable def slices_IndexFunc_int_int_2_vf_impl_isState_1_e : Env := more impl_isState_1_e slices_IndexFunc_int_int_2_vf_impl_isState_1_D
theorem slices_IndexFunc_int_int_2_vf_impl_isState_1_e_ok : EnvOk Try.prog slices_IndexFunc_int_int_2_vf_impl_isState_1_e := more_ok impl_isState_1_e_ok slices_IndexFunc_int_int_2_vf_impl_isState_1_s
/-! slices.ContainsFunc[[]int,int] -/
abbrev slices_ContainsFunc_int_int_2_vf_impl_isState_1_E : Ve.End := ⟨[⟨4, .shr, .bool, none⟩], []⟩
abbrev slices_ContainsFunc_int_int_2_vf_impl_isState_1_a : List ASh := [.val (.list I), .fn 151 []]
abbrev slices_ContainsFunc_int_int_2_vf_impl_isState_1_o : List OSh := []
noncomputable def slices_ContainsFunc_int_int_2_vf_impl_isState_1 : argP slices_ContainsFunc_int_int_2_vf_impl_isState_1_a → obP (extObs 0 slices_ContainsFunc_int_int_2_vf_impl_isState_1_o) → Option slices_ContainsFunc_int_int_2_vf_impl_isState_1_E.P
  | (s, ()), () => match slices_IndexFunc_int_int_2_vf_impl_isState_1 (s, ()) () with | some ((r, ()), ()) => some (((decide ((0 : Int) ≤ r)), ()), ()) | none => none
noncomputable def slices_ContainsFunc_int_int_2_vf_impl_isState_1_x : Cx := ⟨tab, slices_IndexFunc_int_int_2_vf_impl_isState_1_e, fun _ _ => 0, fun _ => false, [(7, 0), (7, 1), (7, 2), (7, 3)], []⟩
noncomputable def c122 : Code := bodyOf Try.f122
noncomputable def slices_ContainsFunc_int_int_2_vf_impl_isState_1_A : Ann := .nil
noncomputable def slices_ContainsFunc_int_int_2_vf_impl_isState_1_D : Ve.Fn := ⟨122, slices_ContainsFunc_int_int_2_vf_impl_isState_1_a, slices_ContainsFunc_int_int_2_vf_impl_isState_1_o, slices_ContainsFunc_int_int_2_vf_impl_isState_1_E, slices_ContainsFunc_int_int_2_vf_impl_isState_1⟩
theorem slices_ContainsFunc_int_int_2_vf_impl_isState_1_w : Walk Try.prog slices_ContainsFunc_int_int_2_vf_impl_isState_1_x slices_ContainsFunc_int_int_2_vf_impl_isState_1_D Try.f122 c122 9 slices_ContainsFunc_int_int_2_vf_impl_isState_1_A :=
  ⟨⟨Try.func122, by kernel_rfl, by kernel_rfl, by kernel_rfl, by decide, by kernel_rfl, Nat.le_of_ble_eq_true (by kernel_rfl)⟩, by kernel_rfl, by kernel_rfl, by kernel_rfl, kcast (by kernel_rfl) trivial, by kernel_rfl, fun x y => by kernel_rfl⟩
theorem slices_ContainsFunc_int_int_2_vf_impl_isState_1_s : slices_ContainsFunc_int_int_2_vf_impl_isState_1_D.Says Try.prog := slices_ContainsFunc_int_int_2_vf_impl_isState_1_w.says follows tabOk slices_IndexFunc_int_int_2_vf_impl_isState_1_e_ok
noncomputable def slices_ContainsFunc_int_int_2_vf_impl_isState_1_e : Env := more slices_IndexFunc_int_int_2_vf_impl_isState_1_e slices_ContainsFunc_int_int_2_vf_impl_isState_1_D
theorem slices_ContainsFunc_int_int_2_vf_impl_isState_1_e_ok : EnvOk Try.prog slices_ContainsFunc_int_int_2_vf_impl_isState_1_e := more_ok slices_IndexFunc_int_int_2_vf_impl_isState_1_e_ok slices_ContainsFunc_int_int_2_vf_impl_isState_1_s
/-! loop.example/g01128/impl.isState -/
abbrev impl_isState_E : Ve.End := ⟨[⟨2, .shr, .bool, none⟩], []⟩
abbrev impl_isState_a : List ASh := [.val (.list I)]
abbrev impl_isState_o : List OSh := []
noncomputable def impl_isState : argP impl_isState_a → obP (extObs 0 impl_isState_o) → Option impl_isState_E.P
  | (state, ()), () => bif (decide ((List.length state : Int) ≤ (24 : Int))) then (match slices_ContainsFunc_int_int_2_vf_impl_isState_1 (state, ()) () with | some ((r, ()), ()) => some (((!r), ()), ()) | none => none) else (some ((false, ()), ()))
noncomputable def impl_isState_x : Cx := ⟨tab, slices_ContainsFunc_int_int_2_vf_impl_isState_1_e, fun _ _ => 0, fun _ => false, [(8, 0), (8, 1), (8, 2), (8, 3)], []⟩
noncomputable def c116 : Code := bodyOf Try.f116
noncomputable def impl_isState_A : Ann := .nil
noncomputable def impl_isState_D : Ve.Fn := ⟨116, impl_isState_a, impl_isState_o, impl_isState_E, impl_isState⟩
theorem impl_isState_w : Walk Try.prog impl_isState_x impl_isState_D Try.f116 c116 11 impl_isState_A :=
  ⟨⟨Try.func116, by kernel_rfl, by kernel_rfl, by kernel_rfl, by decide, by kernel_rfl, Nat.le_of_ble_eq_true (by kernel_rfl)⟩, by kernel_rfl, by kernel_rfl, by kernel_rfl, kcast (by kernel_rfl) trivial, by kernel_rfl, fun x y => by kernel_rfl⟩
theorem impl_isState_s : impl_isState_D.Says Try.prog := impl_isState_w.says follows tabOk slices_ContainsFunc_int_int_2_vf_impl_isState_1_e_ok
noncomputable def impl_isState_e : Env := more slices_ContainsFunc_int_int_2_vf_impl_isState_1_e impl_isState_D
theorem impl_isState_e_ok : EnvOk Try.prog impl_isState_e := more_ok slices_ContainsFunc_int_int_2_vf_impl_isState_1_e_ok impl_isState_s
/-! cmp.isNaN[int] -/
abbrev cmp_isNaN_int_E : Ve.End := ⟨[⟨2, .shr, .bool, none⟩], []⟩
abbrev cmp_isNaN_int_a : List ASh := [.val I]
abbrev cmp_isNaN_int_o : List OSh := []
noncomputable def cmp_isNaN_int : argP cmp_isNaN_int_a → obP (extObs 0 cmp_isNaN_int_o) → Option cmp_isNaN_int_E.P
  | (x, ()), () => some (((x != x), ()), ())
noncomputable def cmp_isNaN_int_x : Cx := ⟨tab, impl_isState_e, fun _ _ => 0, fun _ => false, [], []⟩
noncomputable def c141 : Code := bodyOf Try.f141
noncomputable def cmp_isNaN_int_A : Ann := .nil
noncomputable def cmp_isNaN_int_D : Ve.Fn := ⟨141, cmp_isNaN_int_a, cmp_isNaN_int_o, cmp_isNaN_int_E, cmp_isNaN_int⟩
theorem cmp_isNaN_int_w : Walk Try.prog cmp_isNaN_int_x cmp_isNaN_int_D Try.f141 c141 6 cmp_isNaN_int_A :=
  ⟨⟨Try.func141, by kernel_rfl, by kernel_rfl, by kernel_rfl, by decide, by kernel_rfl, Nat.le_of_ble_eq_true (by kernel_rfl)⟩, by kernel_rfl, by kernel_rfl, by kernel_rfl, kcast (by kernel_rfl) trivial, by kernel_rfl, fun x y => by kernel_rfl⟩
theorem cmp_isNaN_int_s : cmp_isNaN_int_D.Says Try.prog := cmp_isNaN_int_w.says follows tabOk impl_isState_e_ok
noncomputable def cmp_isNaN_int_e : Env := more impl_isState_e cmp_isNaN_int_D
theorem cmp_isNaN_int_e_ok : EnvOk Try.prog cmp_isNaN_int_e := more_ok impl_isState_e_ok cmp_isNaN_int_s
/-! cmp.Compare[int] -/
abbrev cmp_Compare_int_E : Ve.End := ⟨[⟨4, .shr, I, none⟩], []⟩
abbrev cmp_Compare_int_a : List ASh := [.val I, .val I]
abbrev cmp_Compare_int_o : List OSh := []
noncomputable def cmp_Compare_int : argP cmp_Compare_int_a → obP (extObs 0 cmp_Compare_int_o) → Option cmp_Compare_int_E.P
  | (x, y, ()), () => match cmp_isNaN_int (x, ()) () with | some ((r, ()), ()) => (match cmp_isNaN_int (y, ()) () with | some ((r2, ()), ()) => (bif r then (bif r2 then (some (((0 : Int), ()), ())) else (some (((-1 : Int), ()), ()))) else (bif r2 then (some (((1 : Int), ()), ())) else (bif (decide (x < y)) then (some (((-1 : Int), ()), ())) else (bif (decide (y < x)) then (some (((1 : Int), ()), ())) else (some (((0 : Int), ()), ())))))) | none => none) | none => none
noncomputable def cmp_Compare_int_x : Cx := ⟨tab, cmp_isNaN_int_e, fun _ _ => 0, fun _ => false, [(8, 0), (8, 1), (8, 2), (8, 3), (10, 0), (10, 1), (10, 2), (10, 3)], []⟩
noncomputable def c94 : Code := bodyOf Try.f94
noncomputable def cmp_Compare_int_A : Ann := .nil
noncomputable def cmp_Compare_int_D : Ve.Fn := ⟨94, cmp_Compare_int_a, cmp_Compare_int_o, cmp_Compare_int_E, cmp_Compare_int⟩
theorem cmp_Compare_int_w : Walk Try.prog cmp_Compare_int_x cmp_Compare_int_D Try.f94 c94 20 cmp_Compare_int_A :=
  ⟨⟨Try.func94, by kernel_rfl, by kernel_rfl, by kernel_rfl, by decide, by kernel_rfl, Nat.le_of_ble_eq_true (by kernel_rfl)⟩, by kernel_rfl, by kernel_rfl, by kernel_rfl, kcast (by kernel_rfl) trivial, by kernel_rfl, fun x y => by kernel_rfl⟩
theorem cmp_Compare_int_s : cmp_Compare_int_D.Says Try.prog := cmp_Compare_int_w.says follows tabOk cmp_isNaN_int_e_ok
noncomputable def cmp_Compare_int_e : Env := more cmp_isNaN_int_e cmp_Compare_int_D
theorem cmp_Compare_int_e_ok : EnvOk Try.prog cmp_Compare_int_e := more_ok cmp_isNaN_int_e_ok cmp_Compare_int_s
/-! slices.Compare[[]int,int] -/
abbrev slices_Compare_int_int_J0 : Tpl := ⟨[(0, .val (.list I)), (1, .val (.list I)), (9, .val (.list I)), (10, .val I), (11, .val I)], [], []⟩
abbrev slices_Compare_int_int_J1 : Tpl := ⟨[(4, .val I)], [], []⟩
abbrev slices_Compare_int_int_J2 : Tpl := ⟨[(0, .val (.list I)), (1, .val (.list I))], [], []⟩
abbrev slices_Compare_int_int_E : Ve.End := ⟨[⟨4, .shr, I, none⟩], []⟩
abbrev slices_Compare_int_int_a : List ASh := [.val (.list I), .val (.list I)]
abbrev slices_Compare_int_int_o : List OSh := []
abbrev slices_Compare_int_int_O0 : Out := .or .ret slices_Compare_int_int_J1 (.one (.ex 0) slices_Compare_int_int_J2)
noncomputable def slices_Compare_int_int_B0 : slices_Compare_int_int_J0.P → Option (slices_Compare_int_int_J0.P ⊕ slices_Compare_int_int_O0.P)
  | ((s1, s2, t9, t10, t11, ()), ()) => bif (decide (t11 < t10)) then (guardB (inb t11 (List.length t9)) (bif (decide ((List.length s2 : Int) ≤ t11)) then (some (.inr (.inl (((1 : Int), ()), ())))) else (guardB (inb t11 (List.length s2)) (match cmp_Compare_int ((List.getD t9 (Int.toNat t11) (0 : Int)), (List.getD s2 (Int.toNat t11) (0 : Int)), ()) () with | some ((r, ()), ()) => (bif (r != (0 : Int)) then (some (.inr (.inl ((r, ()), ())))) else (some (.inl ((s1, s2, t9, t10, (w64 (t11 + (1 : Int))), ()), ())))) | none => none)))) else (some (.inr (.inr ((s1, s2, ()), ()))))
noncomputable def slices_Compare_int_int : argP slices_Compare_int_int_a → obP (extObs 0 slices_Compare_int_int_o) → Option slices_Compare_int_int_E.P
  | (s1, s2, ()), () => match loopO slices_Compare_int_int_B0 ((s1, s2, s1, (List.length s1 : Int), (0 : Int), ()), ()) with | some (.inl ((t4, ()), ())) => some ((t4, ()), ()) | some (.inr ((s1_2, s2_2, ()), ())) => (bif (decide ((List.length s1_2 : Int) < (List.length s2_2 : Int))) then (some (((-1 : Int), ()), ())) else (some (((0 : Int), ()), ()))) | none => none
noncomputable def slices_Compare_int_int_x : Cx := ⟨tab, cmp_Compare_int_e, fun _ _ => 0, fun _ => false, [(26, 0), (26, 1), (26, 2), (26, 3)], []⟩
noncomputable def c117 : Code := bodyOf Try.f117
noncomputable def slices_Compare_int_int_A : Ann := .seq .nil (.seq (.seq .nil (.loop slices_Compare_int_int_J0 slices_Compare_int_int_O0 slices_Compare_int_int_B0 .nil)) .nil)
theorem slices_Compare_int_int_r0 (p : slices_Compare_int_int_J0.P) : run slices_Compare_int_int_x (subc [1, 0, 1, 0, 0] c117) .nil (slices_Compare_int_int_J0.S p) (leaf slices_Compare_int_int_J0 slices_Compare_int_int_O0) = slices_Compare_int_int_B0 p := by kernel_rfl
noncomputable def slices_Compare_int_int_D : Ve.Fn := ⟨117, slices_Compare_int_int_a, slices_Compare_int_int_o, slices_Compare_int_int_E, slices_Compare_int_int⟩
theorem slices_Compare_int_int_w : Walk Try.prog slices_Compare_int_int_x slices_Compare_int_int_D Try.f117 c117 36 slices_Compare_int_int_A :=
  ⟨⟨Try.func117, by kernel_rfl, by kernel_rfl, by kernel_rfl, by decide, by kernel_rfl, Nat.le_of_ble_eq_true (by kernel_rfl)⟩, by kernel_rfl, by kernel_rfl, by kernel_rfl, kcast (by kernel_rfl) (⟨slices_Compare_int_int_r0, trivial⟩ : (∀ p, run slices_Compare_int_int_x (subc [1, 0, 1, 0, 0] c117) .nil (slices_Compare_int_int_J0.S p) (leaf slices_Compare_int_int_J0 slices_Compare_int_int_O0) = slices_Compare_int_int_B0 p) ∧ True), by kernel_rfl, fun x y => by kernel_rfl⟩
theorem slices_Compare_int_int_s : slices_Compare_int_int_D.Says Try.prog := slices_Compare_int_int_w.says follows tabOk cmp_Compare_int_e_ok
noncomputable def slices_Compare_int_int_e : Env := more cmp_Compare_int_e slices_Compare_int_int_D
theorem slices_Compare_int_int_e_ok : EnvOk Try.prog slices_Compare_int_int_e := more_ok cmp_Compare_int_e_ok slices_Compare_int_int_s
/-! cmp.Or[int] -/
abbrev cmp_Or_int_J0 : Tpl := ⟨[(3, .val I), (6, .val (.list I)), (7, .val I), (8, .val I)], [], []⟩
abbrev cmp_Or_int_J1 : Tpl := ⟨[(2, .val I)], [], []⟩
abbrev cmp_Or_int_J2 : Tpl := ⟨[(3, .val I)], [], []⟩
abbrev cmp_Or_int_E : Ve.End := ⟨[⟨2, .shr, I, none⟩], []⟩
abbrev cmp_Or_int_a : List ASh := [.val (.list I)]
abbrev cmp_Or_int_o : List OSh := []
abbrev cmp_Or_int_O0 : Out := .or .ret cmp_Or_int_J1 (.one (.ex 0) cmp_Or_int_J2)
noncomputable def cmp_Or_int_B0 : cmp_Or_int_J0.P → Option (cmp_Or_int_J0.P ⊕ cmp_Or_int_O0.P)
  | ((zero_, t6, t7, t8, ()), ()) => bif (decide (t8 < t7)) then (guardB (inb t8 (List.length t6)) (bif ((List.getD t6 (Int.toNat t8) (0 : Int)) != zero_) then (some (.inr (.inl (((List.getD t6 (Int.toNat t8) (0 : Int)), ()), ())))) else (some (.inl ((zero_, t6, t7, (w64 (t8 + (1 : Int))), ()), ()))))) else (some (.inr (.inr ((zero_, ()), ()))))
noncomputable def cmp_Or_int : argP cmp_Or_int_a → obP (extObs 0 cmp_Or_int_o) → Option cmp_Or_int_E.P
  | (vals, ()), () => match loopO cmp_Or_int_B0 (((0 : Int), vals, (List.length vals : Int), (0 : Int), ()), ()) with | some (.inl ((t2, ()), ())) => some ((t2, ()), ()) | some (.inr ((zero_, ()), ())) => some ((zero_, ()), ()) | none => none
noncomputable def cmp_Or_int_x : Cx := ⟨tab, slices_Compare_int_int_e, fun _ _ => 0, fun _ => false, [], []⟩
noncomputable def c157 : Code := bodyOf Try.f157
noncomputable def cmp_Or_int_A : Ann := .seq .nil (.seq .nil (.seq (.seq .nil (.loop cmp_Or_int_J0 cmp_Or_int_O0 cmp_Or_int_B0 .nil)) .nil))
theorem cmp_Or_int_r0 (p : cmp_Or_int_J0.P) : run cmp_Or_int_x (subc [1, 1, 0, 1, 0, 0] c157) .nil (cmp_Or_int_J0.S p) (leaf cmp_Or_int_J0 cmp_Or_int_O0) = cmp_Or_int_B0 p := by kernel_rfl
noncomputable def cmp_Or_int_D : Ve.Fn := ⟨157, cmp_Or_int_a, cmp_Or_int_o, cmp_Or_int_E, cmp_Or_int⟩
theorem cmp_Or_int_w : Walk Try.prog cmp_Or_int_x cmp_Or_int_D Try.f157 c157 18 cmp_Or_int_A :=
  ⟨⟨Try.func157, by kernel_rfl, by kernel_rfl, by kernel_rfl, by decide, by kernel_rfl, Nat.le_of_ble_eq_true (by kernel_rfl)⟩, by kernel_rfl, by kernel_rfl, by kernel_rfl, kcast (by kernel_rfl) (⟨cmp_Or_int_r0, trivial⟩ : (∀ p, run cmp_Or_int_x (subc [1, 1, 0, 1, 0, 0] c157) .nil (cmp_Or_int_J0.S p) (leaf cmp_Or_int_J0 cmp_Or_int_O0) = cmp_Or_int_B0 p) ∧ True), by kernel_rfl, fun x y => by kernel_rfl⟩
theorem cmp_Or_int_s : cmp_Or_int_D.Says Try.prog := cmp_Or_int_w.says follows tabOk slices_Compare_int_int_e_ok
noncomputable def cmp_Or_int_e : Env := more slices_Compare_int_int_e cmp_Or_int_D
theorem cmp_Or_int_e_ok : EnvOk Try.prog cmp_Or_int_e := more_ok slices_Compare_int_int_e_ok cmp_Or_int_s
/-! loop.example/g01128/impl.comparePairs -/
abbrev impl_comparePairs_E : Ve.End := ⟨[⟨4, .shr, I, none⟩], []⟩
abbrev impl_comparePairs_a : List ASh := [.val (.prod I I), .val (.prod I I)]
abbrev impl_comparePairs_o : List OSh := []
noncomputable def impl_comparePairs : argP impl_comparePairs_a → obP (extObs 0 impl_comparePairs_o) → Option impl_comparePairs_E.P
  | (a, b, ()), () => match cmp_Compare_int (a.1, b.1, ()) () with | some ((r, ()), ()) => (match cmp_Compare_int (a.2, b.2, ()) () with | some ((r2, ()), ()) => (match cmp_Or_int ([r, r2], ()) () with | some ((r3, ()), ()) => some ((r3, ()), ()) | none => none) | none => none) | none => none
noncomputable def impl_comparePairs_x : Cx := ⟨tab, cmp_Or_int_e, fun _ _ => 0, fun _ => false, [(9, 0), (9, 1), (9, 2), (9, 3), (14, 0), (14, 1), (14, 2), (14, 3), (15, 0), (16, 0), (16, 1), (16, 2), (16, 3)], [(2, 0), (3, 0)]⟩
noncomputable def c137 : Code := bodyOf Try.f137
noncomputable def impl_comparePairs_A : Ann := .seq .nil (.seq (.draw [(0, .flo), (1, .flo), (2, .flo), (3, .flo), (5, .flo), (6, .flo), (7, .flo), (8, .flo), (4, .sole), (9, .sole), (10, .sole), (11, .sole), (12, .flo)]) .nil)
noncomputable def impl_comparePairs_D : Ve.Fn := ⟨137, impl_comparePairs_a, impl_comparePairs_o, impl_comparePairs_E, impl_comparePairs⟩
theorem impl_comparePairs_w : Walk Try.prog impl_comparePairs_x impl_comparePairs_D Try.f137 c137 17 impl_comparePairs_A :=
  ⟨⟨Try.func137, by kernel_rfl, by kernel_rfl, by kernel_rfl, by decide, by kernel_rfl, Nat.le_of_ble_eq_true (by kernel_rfl)⟩, by kernel_rfl, by kernel_rfl, by kernel_rfl, kcast (by kernel_rfl) trivial, by kernel_rfl, fun x y => by kernel_rfl⟩
theorem impl_comparePairs_s : impl_comparePairs_D.Says Try.prog := impl_comparePairs_w.says follows tabOk cmp_Or_int_e_ok
noncomputable def impl_comparePairs_e : Env := more cmp_Or_int_e impl_comparePairs_D
theorem impl_comparePairs_e_ok : EnvOk Try.prog impl_comparePairs_e := more_ok cmp_Or_int_e_ok impl_comparePairs_s
/-! loop.example/g01128/impl.isPairs -/
abbrev impl_isPairs_J0 : Tpl := ⟨[(0, .val (.list (.prod I I))), (1, .val I), (7, .val (.list (.prod I I))), (8, .val I), (9, .val I)], [], []⟩
abbrev impl_isPairs_J1 : Tpl := ⟨[(4, .val .bool)], [], []⟩
abbrev impl_isPairs_J2 : Tpl := ⟨[], [], []⟩
abbrev impl_isPairs_E : Ve.End := ⟨[⟨4, .shr, .bool, none⟩], []⟩
abbrev impl_isPairs_a : List ASh := [.val (.list (.prod I I)), .val I]
abbrev impl_isPairs_o : List OSh := []
abbrev impl_isPairs_O0 : Out := .or .ret impl_isPairs_J1 (.one (.ex 0) impl_isPairs_J2)
noncomputable def impl_isPairs_B0 : impl_isPairs_J0.P → Option (impl_isPairs_J0.P ⊕ impl_isPairs_O0.P)
  | ((list, below, t7, t8, t9, ()), ()) => bif (decide (t9 < t8)) then (guardB (inb t9 (List.length t7)) (bif (decide (((List.getD t7 (Int.toNat t9) ((0 : Int), (0 : Int))).1) < (0 : Int))) then (some (.inr (.inl ((false, ()), ())))) else (bif (decide (((List.getD t7 (Int.toNat t9) ((0 : Int), (0 : Int))).2) ≤ ((List.getD t7 (Int.toNat t9) ((0 : Int), (0 : Int))).1))) then (some (.inr (.inl ((false, ()), ())))) else (bif (decide (below ≤ ((List.getD t7 (Int.toNat t9) ((0 : Int), (0 : Int))).2))) then (some (.inr (.inl ((false, ()), ())))) else (bif (decide ((0 : Int) < t9)) then (guardB (inb (w64 (t9 - (1 : Int))) (List.length list)) (match impl_comparePairs ((List.getD list (Int.toNat (w64 (t9 - (1 : Int)))) ((0 : Int), (0 : Int))), (List.getD t7 (Int.toNat t9) ((0 : Int), (0 : Int))), ()) () with | some ((r, ()), ()) => (bif (decide ((0 : Int) ≤ r)) then (some (.inr (.inl ((false, ()), ())))) else (some (.inl ((list, below, t7, t8, (w64 (t9 + (1 : Int))), ()), ())))) | none => none)) else (some (.inl ((list, below, t7, t8, (w64 (t9 + (1 : Int))), ()), ())))))))) else (some (.inr (.inr ((), ()))))
noncomputable def impl_isPairs : argP impl_isPairs_a → obP (extObs 0 impl_isPairs_o) → Option impl_isPairs_E.P
  | (list, below, ()), () => match loopO impl_isPairs_B0 ((list, below, list, (List.length list : Int), (0 : Int), ()), ()) with | some (.inl ((t4, ()), ())) => some ((t4, ()), ()) | some (.inr ((), ())) => some ((true, ()), ()) | none => none
noncomputable def impl_isPairs_x : Cx := ⟨tab, impl_comparePairs_e, fun _ _ => 0, fun _ => false, [(40, 0), (40, 1), (40, 2), (40, 3)], [(6, 0)]⟩
noncomputable def c118 : Code := bodyOf Try.f118
noncomputable def impl_isPairs_A : Ann := .seq .nil (.seq (.seq .nil (.loop impl_isPairs_J0 impl_isPairs_O0 impl_isPairs_B0 (.seq .nil (.seq .nil (.seq (.seq .nil (.seq (.draw [(0, .flo), (1, .flo), (2, .flo), (3, .flo), (4, .flo), (6, .flo), (5, .qui), (7, .qui), (8, .flo), (9, .flo), (10, .flo), (11, .flo), (13, .flo), (12, .qui), (14, .flo), (15, .flo), (16, .flo), (17, .flo), (18, .flo), (19, .flo), (20, .flo), (21, .flo), (22, .flo), (23, .flo), (24, .qui), (25, .qui), (26, .sole), (27, .flo), (28, .flo), (29, .flo)]) .nil)) .nil))))) .nil)
theorem impl_isPairs_r0 (p : impl_isPairs_J0.P) : run impl_isPairs_x (subc [1, 0, 1, 0, 0] c118) (.seq .nil (.seq .nil (.seq (.seq .nil (.seq (.draw [(0, .flo), (1, .flo), (2, .flo), (3, .flo), (4, .flo), (6, .flo), (5, .qui), (7, .qui), (8, .flo), (9, .flo), (10, .flo), (11, .flo), (13, .flo), (12, .qui), (14, .flo), (15, .flo), (16, .flo), (17, .flo), (18, .flo), (19, .flo), (20, .flo), (21, .flo), (22, .flo), (23, .flo), (24, .qui), (25, .qui), (26, .sole), (27, .flo), (28, .flo), (29, .flo)]) .nil)) .nil))) (impl_isPairs_J0.S p) (leaf impl_isPairs_J0 impl_isPairs_O0) = impl_isPairs_B0 p := by kernel_rfl
noncomputable def impl_isPairs_D : Ve.Fn := ⟨118, impl_isPairs_a, impl_isPairs_o, impl_isPairs_E, impl_isPairs⟩
theorem impl_isPairs_w : Walk Try.prog impl_isPairs_x impl_isPairs_D Try.f118 c118 45 impl_isPairs_A :=
  ⟨⟨Try.func118, by kernel_rfl, by kernel_rfl, by kernel_rfl, by decide, by kernel_rfl, Nat.le_of_ble_eq_true (by kernel_rfl)⟩, by kernel_rfl, by kernel_rfl, by kernel_rfl, kcast (by kernel_rfl) (⟨impl_isPairs_r0, trivial⟩ : (∀ p, run impl_isPairs_x (subc [1, 0, 1, 0, 0] c118) (.seq .nil (.seq .nil (.seq (.seq .nil (.seq (.draw [(0, .flo), (1, .flo), (2, .flo), (3, .flo), (4, .flo), (6, .flo), (5, .qui), (7, .qui), (8, .flo), (9, .flo), (10, .flo), (11, .flo), (13, .flo), (12, .qui), (14, .flo), (15, .flo), (16, .flo), (17, .flo), (18, .flo), (19, .flo), (20, .flo), (21, .flo), (22, .flo), (23, .flo), (24, .qui), (25, .qui), (26, .sole), (27, .flo), (28, .flo), (29, .flo)]) .nil)) .nil))) (impl_isPairs_J0.S p) (leaf impl_isPairs_J0 impl_isPairs_O0) = impl_isPairs_B0 p) ∧ True), by kernel_rfl, fun x y => by kernel_rfl⟩
theorem impl_isPairs_s : impl_isPairs_D.Says Try.prog := impl_isPairs_w.says follows tabOk impl_comparePairs_e_ok
noncomputable def impl_isPairs_e : Env := more impl_comparePairs_e impl_isPairs_D
theorem impl_isPairs_e_ok : EnvOk Try.prog impl_isPairs_e := more_ok impl_comparePairs_e_ok impl_isPairs_s
/-! loop.example/g01128/impl.IsSpace -/
abbrev impl_IsSpace_J0 : Tpl := ⟨[(1, .cst (.prod (.list (.list I)) (.list (.prod I I)))), (16, .val (.list (.list I))), (17, .val I), (18, .val I)], [], []⟩
abbrev impl_IsSpace_J1 : Tpl := ⟨[(2, .val .bool)], [], []⟩
abbrev impl_IsSpace_J2 : Tpl := ⟨[(1, .cst (.prod (.list (.list I)) (.list (.prod I I))))], [], []⟩
abbrev impl_IsSpace_E : Ve.End := ⟨[⟨2, .shr, .bool, none⟩], []⟩
abbrev impl_IsSpace_a : List ASh := [.val (.prod (.list (.list I)) (.list (.prod I I)))]
abbrev impl_IsSpace_o : List OSh := []
abbrev impl_IsSpace_O0 : Out := .or .ret impl_IsSpace_J1 (.one (.ex 0) impl_IsSpace_J2)
noncomputable def impl_IsSpace_B0 : impl_IsSpace_J0.P → Option (impl_IsSpace_J0.P ⊕ impl_IsSpace_O0.P)
  | ((x, t16, t17, t18, ()), ()) => bif (decide (t18 < t17)) then (guardB (inb t18 (List.length t16)) (match impl_isState ((List.getD t16 (Int.toNat t18) ([] : (List Int))), ()) () with | some ((r, ()), ()) => (bif (!r) then (some (.inr (.inl ((false, ()), ())))) else (bif (decide ((0 : Int) < t18)) then (guardB (inb (w64 (t18 - (1 : Int))) (List.length x.1)) (match slices_Compare_int_int ((List.getD x.1 (Int.toNat (w64 (t18 - (1 : Int)))) ([] : (List Int))), (List.getD t16 (Int.toNat t18) ([] : (List Int))), ()) () with | some ((r2, ()), ()) => (bif (decide ((0 : Int) ≤ r2)) then (some (.inr (.inl ((false, ()), ())))) else (some (.inl ((x, t16, t17, (w64 (t18 + (1 : Int))), ()), ())))) | none => none)) else (some (.inl ((x, t16, t17, (w64 (t18 + (1 : Int))), ()), ()))))) | none => none)) else (some (.inr (.inr ((x, ()), ()))))
noncomputable def impl_IsSpace : argP impl_IsSpace_a → obP (extObs 0 impl_IsSpace_o) → Option impl_IsSpace_E.P
  | (x, ()), () => bif (decide ((300 : Int) < (List.length x.1 : Int))) then (some ((false, ()), ())) else (bif (decide ((6000 : Int) < (List.length x.2 : Int))) then (some ((false, ()), ())) else (match loopO impl_IsSpace_B0 ((x, x.1, (List.length x.1 : Int), (0 : Int), ()), ()) with | some (.inl ((t2, ()), ())) => some ((t2, ()), ()) | some (.inr ((x2, ()), ())) => (match impl_isPairs (x2.2, (List.length x2.1 : Int), ()) () with | some ((r, ()), ()) => some ((r, ()), ()) | none => none) | none => none))
noncomputable def impl_IsSpace_x : Cx := ⟨tab, impl_isPairs_e, fun _ _ => 0, fun _ => false, [(4, 0), (24, 0), (24, 1), (24, 2), (24, 3), (37, 0), (37, 1), (37, 2), (37, 3), (47, 0), (47, 1), (47, 2), (47, 3)], [(1, 0)]⟩
noncomputable def c56 : Code := bodyOf Try.f56
noncomputable def impl_IsSpace_A : Ann := .seq .nil (.seq .nil (.seq (.seq .nil (.loop impl_IsSpace_J0 impl_IsSpace_O0 impl_IsSpace_B0 .nil)) .nil))
theorem impl_IsSpace_r0 (p : impl_IsSpace_J0.P) : run impl_IsSpace_x (subc [1, 1, 0, 1, 0, 0] c56) .nil (impl_IsSpace_J0.S p) (leaf impl_IsSpace_J0 impl_IsSpace_O0) = impl_IsSpace_B0 p := by kernel_rfl
noncomputable def impl_IsSpace_D : Ve.Fn := ⟨56, impl_IsSpace_a, impl_IsSpace_o, impl_IsSpace_E, impl_IsSpace⟩
theorem impl_IsSpace_w : Walk Try.prog impl_IsSpace_x impl_IsSpace_D Try.f56 c56 48 impl_IsSpace_A :=
  ⟨⟨Try.func56, by kernel_rfl, by kernel_rfl, by kernel_rfl, by decide, by kernel_rfl, Nat.le_of_ble_eq_true (by kernel_rfl)⟩, by kernel_rfl, by kernel_rfl, by kernel_rfl, kcast (by kernel_rfl) (⟨impl_IsSpace_r0, trivial⟩ : (∀ p, run impl_IsSpace_x (subc [1, 1, 0, 1, 0, 0] c56) .nil (impl_IsSpace_J0.S p) (leaf impl_IsSpace_J0 impl_IsSpace_O0) = impl_IsSpace_B0 p) ∧ True), by kernel_rfl, fun x y => by kernel_rfl⟩
theorem impl_IsSpace_s : impl_IsSpace_D.Says Try.prog := impl_IsSpace_w.says follows tabOk impl_isPairs_e_ok
noncomputable def impl_IsSpace_e : Env := more impl_isPairs_e impl_IsSpace_D
theorem impl_IsSpace_e_ok : EnvOk Try.prog impl_IsSpace_e := more_ok impl_isPairs_e_ok impl_IsSpace_s
/-! loop.example/g01128/impl.areLoads$1 -/
abbrev impl_areLoads_1_E : Ve.End := ⟨[⟨2, .shr, .bool, none⟩], []⟩
abbrev impl_areLoads_1_a : List ASh := [.val I]
abbrev impl_areLoads_1_o : List OSh := []
noncomputable def impl_areLoads_1 : argP impl_areLoads_1_a → obP (extObs 0 impl_areLoads_1_o) → Option impl_areLoads_1_E.P
  | (n, ()), () => match impl_between (n, (0 : Int), (999 : Int), ()) () with | some ((r, ()), ()) => some (((!r), ()), ()) | none => none
noncomputable def impl_areLoads_1_x : Cx := ⟨tab, impl_IsSpace_e, fun _ _ => 0, fun _ => false, [(4, 0), (4, 1), (4, 2), (4, 3)], []⟩
noncomputable def c155 : Code := bodyOf Try.f155
noncomputable def impl_areLoads_1_A : Ann := .nil
noncomputable def impl_areLoads_1_D : Ve.Fn := ⟨155, impl_areLoads_1_a, impl_areLoads_1_o, impl_areLoads_1_E, impl_areLoads_1⟩
theorem impl_areLoads_1_w : Walk Try.prog impl_areLoads_1_x impl_areLoads_1_D Try.f155 c155 6 impl_areLoads_1_A :=
  ⟨⟨Try.func155, by kernel_rfl, by kernel_rfl, by kernel_rfl, by decide, by kernel_rfl, Nat.le_of_ble_eq_true (by kernel_rfl)⟩, by kernel_rfl, by kernel_rfl, by kernel_rfl, kcast (by kernel_rfl) trivial, by kernel_rfl, fun x y => by kernel_rfl⟩
theorem impl_areLoads_1_s : impl_areLoads_1_D.Says Try.prog := impl_areLoads_1_w.says follows tabOk impl_IsSpace_e_ok
noncomputable def impl_areLoads_1_e : Env := more impl_IsSpace_e impl_areLoads_1_D
theorem impl_areLoads_1_e_ok : EnvOk Try.prog impl_areLoads_1_e := more_ok impl_IsSpace_e_ok impl_areLoads_1_s
/-! slices.IndexFunc[[]int,int] -/
abbrev slices_IndexFunc_int_int_2_vf_impl_areLoads_1_J0 : Tpl := ⟨[(0, .val (.list I)), (1, .fn ⟨155, []⟩), (7, .val I), (8, .val I)], [], []⟩
abbrev slices_IndexFunc_int_int_2_vf_impl_areLoads_1_J1 : Tpl := ⟨[(4, .val I)], [], []⟩
abbrev slices_IndexFunc_int_int_2_vf_impl_areLoads_1_J2 : Tpl := ⟨[], [], []⟩
abbrev slices_IndexFunc_int_int_2_vf_impl_areLoads_1_E : Ve.End := ⟨[⟨4, .shr, I, none⟩], []⟩
abbrev slices_IndexFunc_int_int_2_vf_impl_areLoads_1_a : List ASh := [.val (.list I), .fn 155 []]
abbrev slices_IndexFunc_int_int_2_vf_impl_areLoads_1_o : List OSh := []
abbrev slices_IndexFunc_int_int_2_vf_impl_areLoads_1_O0 : Out := .or .ret slices_IndexFunc_int_int_2_vf_impl_areLoads_1_J1 (.one (.ex 0) slices_IndexFunc_int_int_2_vf_impl_areLoads_1_J2)
noncomputable def slices_IndexFunc_int_int_2_vf_impl_areLoads_1_B0 : slices_IndexFunc_int_int_2_vf_impl_areLoads_1_J0.P → Option (slices_IndexFunc_int_int_2_vf_impl_areLoads_1_J0.P ⊕ slices_IndexFunc_int_int_2_vf_impl_areLoads_1_O0.P)
  | ((s, t7, t8, ()), ()) => bif (decide (t8 < t7)) then (guardB (inb t8 (List.length s)) (match impl_areLoads_1 ((List.getD s (Int.toNat t8) (0 : Int)), ()) () with | some ((r, ()), ()) => (bif r then (some (.inr (.inl ((t8, ()), ())))) else (some (.inl ((s, t7, (w64 (t8 + (1 : Int))), ()), ())))) | none => none)) else (some (.inr (.inr ((), ()))))
noncomputable def slices_IndexFunc_int_int_2_vf_impl_areLoads_1 : argP slices_IndexFunc_int_int_2_vf_impl_areLoads_1_a → obP (extObs 0 slices_IndexFunc_int_int_2_vf_impl_areLoads_1_o) → Option slices_IndexFunc_int_int_2_vf_impl_areLoads_1_E.P
  | (s, ()), () => match loopO slices_IndexFunc_int_int_2_vf_impl_areLoads_1_B0 ((s, (List.length s : Int), (0 : Int), ()), ()) with | some (.inl ((t4, ()), ())) => some ((t4, ()), ()) | some (.inr ((), ())) => some (((-1 : Int), ()), ()) | none => none
noncomputable def slices_IndexFunc_int_int_2_vf_impl_areLoads_1_x : Cx := ⟨tab, impl_areLoads_1_e, fun _ _ => 0, fun _ => false, [(16, 0), (16, 1), (16, 2), (16, 3)], []⟩
noncomputable def slices_IndexFunc_int_int_2_vf_impl_areLoads_1_A : Ann := .seq .nil (.seq (.seq .nil (.loop slices_IndexFunc_int_int_2_vf_impl_areLoads_1_J0 slices_IndexFunc_int_int_2_vf_impl_areLoads_1_O0 slices_IndexFunc_int_int_2_vf_impl_areLoads_1_B0 .nil)) .nil)
theorem slices_IndexFunc_int_int_2_vf_impl_areLoads_1_r0 (p : slices_IndexFunc_int_int_2_vf_impl_areLoads_1_J0.P) : run slices_IndexFunc_int_int_2_vf_impl_areLoads_1_x (subc [1, 0, 1, 0, 0] c154) .nil (slices_IndexFunc_int_int_2_vf_impl_areLoads_1_J0.S p) (leaf slices_IndexFunc_int_int_2_vf_impl_areLoads_1_J0 slices_IndexFunc_int_int_2_vf_impl_areLoads_1_O0) = slices_IndexFunc_int_int_2_vf_impl_areLoads_1_B0 p := by kernel_rfl
noncomputable def slices_IndexFunc_int_int_2_vf_impl_areLoads_1_D : Ve.Fn := ⟨154, slices_IndexFunc_int_int_2_vf_impl_areLoads_1_a, slices_IndexFunc_int_int_2_vf_impl_areLoads_1_o, slices_IndexFunc_int_int_2_vf_impl_areLoads_1_E, slices_IndexFunc_int_int_2_vf_impl_areLoads_1⟩
theorem slices_IndexFunc_int_int_2_vf_impl_areLoads_1_w : Walk Try.prog slices_IndexFunc_int_int_2_vf_impl_areLoads_1_x slices_IndexFunc_int_int_2_vf_impl_areLoads_1_D Try.f154 c154 19 slices_IndexFunc_int_int_2_vf_impl_areLoads_1_A :=
  ⟨⟨Try.func154, by kernel_rfl, by kernel_rfl, by kernel_rfl, by decide, by kernel_rfl, Nat.le_of_ble_eq_true (by kernel_rfl)⟩, by kernel_rfl, by kernel_rfl, by kernel_rfl, kcast (by kernel_rfl) (⟨slices_IndexFunc_int_int_2_vf_impl_areLoads_1_r0, trivial⟩ : (∀ p, run slices_IndexFunc_int_int_2_vf_impl_areLoads_1_x (subc [1, 0, 1, 0, 0] c154) .nil (slices_IndexFunc_int_int_2_vf_impl_areLoads_1_J0.S p) (leaf slices_IndexFunc_int_int_2_vf_impl_areLoads_1_J0 slices_IndexFunc_int_int_2_vf_impl_areLoads_1_O0) = slices_IndexFunc_int_int_2_vf_impl_areLoads_1_B0 p) ∧ True), by kernel_rfl, fun x y => by kernel_rfl⟩
theorem slices_IndexFunc_int_int_2_vf_impl_areLoads_1_s : slices_IndexFunc_int_int_2_vf_impl_areLoads_1_D.Says Try.prog := slices_IndexFunc_int_int_2_vf_impl_areLoads_1_w.says follows tabOk impl_areLoads_1_e_ok
noncomputable def slices_IndexFunc_int_int_2_vf_impl_areLoads_1_e : Env := more impl_areLoads_1_e slices_IndexFunc_int_int_2_vf_impl_areLoads_1_D
theorem slices_IndexFunc_int_int_2_vf_impl_areLoads_1_e_ok : EnvOk Try.prog slices_IndexFunc_int_int_2_vf_impl_areLoads_1_e := more_ok impl_areLoads_1_e_ok slices_IndexFunc_int_int_2_vf_impl_areLoads_1_s
/-! slices.ContainsFunc[[]int,int] -/
abbrev slices_ContainsFunc_int_int_2_vf_impl_areLoads_1_E : Ve.End := ⟨[⟨4, .shr, .bool, none⟩], []⟩
abbrev slices_ContainsFunc_int_int_2_vf_impl_areLoads_1_a : List ASh := [.val (.list I), .fn 155 []]
abbrev slices_ContainsFunc_int_int_2_vf_impl_areLoads_1_o : List OSh := []
noncomputable def slices_ContainsFunc_int_int_2_vf_impl_areLoads_1 : argP slices_ContainsFunc_int_int_2_vf_impl_areLoads_1_a → obP (extObs 0 slices_ContainsFunc_int_int_2_vf_impl_areLoads_1_o) → Option slices_ContainsFunc_int_int_2_vf_impl_areLoads_1_E.P
  | (s, ()), () => match slices_IndexFunc_int_int_2_vf_impl_areLoads_1 (s, ()) () with | some ((r, ()), ()) => some (((decide ((0 : Int) ≤ r)), ()), ()) | none => none
noncomputable def slices_ContainsFunc_int_int_2_vf_impl_areLoads_1_x : Cx := ⟨tab, slices_IndexFunc_int_int_2_vf_impl_areLoads_1_e, fun _ _ => 0, fun _ => false, [(7, 0), (7, 1), (7, 2), (7, 3)], []⟩
noncomputable def slices_ContainsFunc_int_int_2_vf_impl_areLoads_1_A : Ann := .nil
noncomputable def slices_ContainsFunc_int_int_2_vf_impl_areLoads_1_D : Ve.Fn := ⟨122, slices_ContainsFunc_int_int_2_vf_impl_areLoads_1_a, slices_ContainsFunc_int_int_2_vf_impl_areLoads_1_o, slices_ContainsFunc_int_int_2_vf_impl_areLoads_1_E, slices_ContainsFunc_int_int_2_vf_impl_areLoads_1⟩
theorem slices_ContainsFunc_int_int_2_vf_impl_areLoads_1_w : Walk Try.prog slices_ContainsFunc_int_int_2_vf_impl_areLoads_1_x slices_ContainsFunc_int_int_2_vf_impl_areLoads_1_D Try.f122 c122 9 slices_ContainsFunc_int_int_2_vf_impl_areLoads_1_A :=
  ⟨⟨Try.func122, by kernel_rfl, by kernel_rfl, by kernel_rfl, by decide, by kernel_rfl, Nat.le_of_ble_eq_true (by kernel_rfl)⟩, by kernel_rfl, by kernel_rfl, by kernel_rfl, kcast (by kernel_rfl) trivial, by kernel_rfl, fun x y => by kernel_rfl⟩
theorem slices_ContainsFunc_int_int_2_vf_impl_areLoads_1_s : slices_ContainsFunc_int_int_2_vf_impl_areLoads_1_D.Says Try.prog := slices_ContainsFunc_int_int_2_vf_impl_areLoads_1_w.says follows tabOk slices_IndexFunc_int_int_2_vf_impl_areLoads_1_e_ok
noncomputable def slices_ContainsFunc_int_int_2_vf_impl_areLoads_1_e : Env := more slices_IndexFunc_int_int_2_vf_impl_areLoads_1_e slices_ContainsFunc_int_int_2_vf_impl_areLoads_1_D
theorem slices_ContainsFunc_int_int_2_vf_impl_areLoads_1_e_ok : EnvOk Try.prog slices_ContainsFunc_int_int_2_vf_impl_areLoads_1_e := more_ok slices_IndexFunc_int_int_2_vf_impl_areLoads_1_e_ok slices_ContainsFunc_int_int_2_vf_impl_areLoads_1_s
/-! loop.example/g01128/impl.areLoads -/
abbrev impl_areLoads_E : Ve.End := ⟨[⟨4, .shr, .bool, none⟩], []⟩
abbrev impl_areLoads_a : List ASh := [.val (.list I), .val I]
abbrev impl_areLoads_o : List OSh := []
noncomputable def impl_areLoads : argP impl_areLoads_a → obP (extObs 0 impl_areLoads_o) → Option impl_areLoads_E.P
  | (list, many, ()), () => bif ((List.length list : Int) == many) then (match slices_ContainsFunc_int_int_2_vf_impl_areLoads_1 (list, ()) () with | some ((r, ()), ()) => some (((!r), ()), ()) | none => none) else (some ((false, ()), ()))
noncomputable def impl_areLoads_x : Cx := ⟨tab, slices_ContainsFunc_int_int_2_vf_impl_areLoads_1_e, fun _ _ => 0, fun _ => false, [(11, 0), (11, 1), (11, 2), (11, 3)], []⟩
noncomputable def c129 : Code := bodyOf Try.f129
noncomputable def impl_areLoads_A : Ann := .nil
noncomputable def impl_areLoads_D : Ve.Fn := ⟨129, impl_areLoads_a, impl_areLoads_o, impl_areLoads_E, impl_areLoads⟩
theorem impl_areLoads_w : Walk Try.prog impl_areLoads_x impl_areLoads_D Try.f129 c129 14 impl_areLoads_A :=
  ⟨⟨Try.func129, by kernel_rfl, by kernel_rfl, by kernel_rfl, by decide, by kernel_rfl, Nat.le_of_ble_eq_true (by kernel_rfl)⟩, by kernel_rfl, by kernel_rfl, by kernel_rfl, kcast (by kernel_rfl) trivial, by kernel_rfl, fun x y => by kernel_rfl⟩
theorem impl_areLoads_s : impl_areLoads_D.Says Try.prog := impl_areLoads_w.says follows tabOk slices_ContainsFunc_int_int_2_vf_impl_areLoads_1_e_ok
noncomputable def impl_areLoads_e : Env := more slices_ContainsFunc_int_int_2_vf_impl_areLoads_1_e impl_areLoads_D
theorem impl_areLoads_e_ok : EnvOk Try.prog impl_areLoads_e := more_ok slices_ContainsFunc_int_int_2_vf_impl_areLoads_1_e_ok impl_areLoads_s
/-! loop.example/g01128/impl.isHigh -/
abbrev impl_isHigh_E : Ve.End := ⟨[⟨4, .shr, .bool, none⟩], []⟩
abbrev impl_isHigh_a : List ASh := [.val (.prod (.list (.list I)) (.list (.prod I I))), .val (.list I)]
abbrev impl_isHigh_o : List OSh := []
noncomputable def impl_isHigh : argP impl_isHigh_a → obP (extObs 0 impl_isHigh_o) → Option impl_isHigh_E.P
  | (x, heights, ()), () => match impl_IsSpace (x, ()) () with | some ((r, ()), ()) => (bif r then (match impl_areLoads (heights, (List.length x.1 : Int), ()) () with | some ((r2, ()), ()) => some ((r2, ()), ()) | none => none) else (some ((false, ()), ()))) | none => none
noncomputable def impl_isHigh_x : Cx := ⟨tab, impl_areLoads_e, fun _ _ => 0, fun _ => false, [(6, 0), (6, 1), (6, 2), (6, 3), (12, 0), (12, 1), (12, 2), (12, 3)], [(2, 0)]⟩
noncomputable def c102 : Code := bodyOf Try.f102
noncomputable def impl_isHigh_A : Ann := .nil
noncomputable def impl_isHigh_D : Ve.Fn := ⟨102, impl_isHigh_a, impl_isHigh_o, impl_isHigh_E, impl_isHigh⟩
theorem impl_isHigh_w : Walk Try.prog impl_isHigh_x impl_isHigh_D Try.f102 c102 14 impl_isHigh_A :=
  ⟨⟨Try.func102, by kernel_rfl, by kernel_rfl, by kernel_rfl, by decide, by kernel_rfl, Nat.le_of_ble_eq_true (by kernel_rfl)⟩, by kernel_rfl, by kernel_rfl, by kernel_rfl, kcast (by kernel_rfl) trivial, by kernel_rfl, fun x y => by kernel_rfl⟩
theorem impl_isHigh_s : impl_isHigh_D.Says Try.prog := impl_isHigh_w.says follows tabOk impl_areLoads_e_ok
noncomputable def impl_isHigh_e : Env := more impl_areLoads_e impl_isHigh_D
theorem impl_isHigh_e_ok : EnvOk Try.prog impl_isHigh_e := more_ok impl_areLoads_e_ok impl_isHigh_s
/-! (loop.example/g01128/impl.Space).isPlace -/
abbrev impl_Space_isPlace_E : Ve.End := ⟨[⟨4, .shr, .bool, none⟩], []⟩
abbrev impl_Space_isPlace_a : List ASh := [.val (.prod (.list (.list I)) (.list (.prod I I))), .val I]
abbrev impl_Space_isPlace_o : List OSh := []
noncomputable def impl_Space_isPlace : argP impl_Space_isPlace_a → obP (extObs 0 impl_Space_isPlace_o) → Option impl_Space_isPlace_E.P
  | (x, i, ()), () => match impl_between (i, (0 : Int), (w64 ((List.length x.1 : Int) - (1 : Int))), ()) () with | some ((r, ()), ()) => some ((r, ()), ()) | none => none
noncomputable def impl_Space_isPlace_x : Cx := ⟨tab, impl_isHigh_e, fun _ _ => 0, fun _ => false, [(10, 0), (10, 1), (10, 2), (10, 3)], [(2, 0)]⟩
noncomputable def c74 : Code := bodyOf Try.f74
noncomputable def impl_Space_isPlace_A : Ann := .nil
noncomputable def impl_Space_isPlace_D : Ve.Fn := ⟨74, impl_Space_isPlace_a, impl_Space_isPlace_o, impl_Space_isPlace_E, impl_Space_isPlace⟩
theorem impl_Space_isPlace_w : Walk Try.prog impl_Space_isPlace_x impl_Space_isPlace_D Try.f74 c74 11 impl_Space_isPlace_A :=
  ⟨⟨Try.func74, by kernel_rfl, by kernel_rfl, by kernel_rfl, by decide, by kernel_rfl, Nat.le_of_ble_eq_true (by kernel_rfl)⟩, by kernel_rfl, by kernel_rfl, by kernel_rfl, kcast (by kernel_rfl) trivial, by kernel_rfl, fun x y => by kernel_rfl⟩
theorem impl_Space_isPlace_s : impl_Space_isPlace_D.Says Try.prog := impl_Space_isPlace_w.says follows tabOk impl_isHigh_e_ok
noncomputable def impl_Space_isPlace_e : Env := more impl_isHigh_e impl_Space_isPlace_D
theorem impl_Space_isPlace_e_ok : EnvOk Try.prog impl_Space_isPlace_e := more_ok impl_isHigh_e_ok impl_Space_isPlace_s
noncomputable def slices_Sorted_int_e : Env := more impl_Space_isPlace_e (sortedFn 120 153 .shr)
theorem slices_Sorted_int_e_ok : EnvOk Try.prog slices_Sorted_int_e := more_ok impl_Space_isPlace_e_ok (Sorted_s _ (.inl rfl))
noncomputable abbrev slices_Sorted_int := (sortedFn 120 153 .shr).F
noncomputable def slices_Compact_int_int_e : Env := more slices_Sorted_int_e (compactFn 119)
theorem slices_Compact_int_int_e_ok : EnvOk Try.prog slices_Compact_int_int_e := more_ok slices_Sorted_int_e_ok compact_s
noncomputable abbrev slices_Compact_int_int := (compactFn 119).F
/-! loop.example/g01128/impl.below -/
abbrev impl_below_J0 : Tpl := ⟨[(1, .val I), (5, .own .shr I), (9, .val (.list I)), (10, .val I), (11, .val I)], [], []⟩
abbrev impl_below_J1 : Tpl := ⟨[(5, .own .shr I)], [], []⟩
abbrev impl_below_E : Ve.End := ⟨[⟨4, (.own .shr), (.list I), none⟩], []⟩
abbrev impl_below_a : List ASh := [.val (.list I), .val I]
abbrev impl_below_o : List OSh := []
abbrev impl_below_O0 : Out := .one (.ex 0) impl_below_J1
noncomputable def impl_below_B0 : impl_below_J0.P → Option (impl_below_J0.P ⊕ impl_below_O0.P)
  | ((level, out, t9, t10, t11, ()), ()) => bif (decide (t11 < t10)) then (guardB (inb t11 (List.length t9)) (bif (decide ((List.getD t9 (Int.toNat t11) (0 : Int)) ≤ level)) then (guardB (decide ((List.length out + List.length [t11]) * 8 ≤ 70368744177664)) (some (.inl ((level, (out ++ [t11]), t9, t10, (w64 (t11 + (1 : Int))), ()), ())))) else (some (.inl ((level, out, t9, t10, (w64 (t11 + (1 : Int))), ()), ()))))) else (some (.inr ((out, ()), ())))
noncomputable def impl_below : argP impl_below_a → obP (extObs 0 impl_below_o) → Option impl_below_E.P
  | (heights, level, ()), () => match loopO impl_below_B0 ((level, ([] : (List Int)), heights, (List.length heights : Int), (0 : Int), ()), ()) with | some ((out, ()), ()) => some ((out, ()), ()) | none => none
noncomputable def impl_below_x : Cx := ⟨tab, slices_Compact_int_int_e, fun _ _ => 0, fun _ => false, [(21, 0)], []⟩
noncomputable def c104 : Code := bodyOf Try.f104
noncomputable def impl_below_A : Ann := .seq .nil (.seq .nil (.seq (.seq .nil (.loop impl_below_J0 impl_below_O0 impl_below_B0 .nil)) .nil))
theorem impl_below_r0 (p : impl_below_J0.P) : run impl_below_x (subc [1, 1, 0, 1, 0, 0] c104) .nil (impl_below_J0.S p) (leaf impl_below_J0 impl_below_O0) = impl_below_B0 p := by kernel_rfl
noncomputable def impl_below_D : Ve.Fn := ⟨104, impl_below_a, impl_below_o, impl_below_E, impl_below⟩
theorem impl_below_w : Walk Try.prog impl_below_x impl_below_D Try.f104 c104 25 impl_below_A :=
  ⟨⟨Try.func104, by kernel_rfl, by kernel_rfl, by kernel_rfl, by decide, by kernel_rfl, Nat.le_of_ble_eq_true (by kernel_rfl)⟩, by kernel_rfl, by kernel_rfl, by kernel_rfl, kcast (by kernel_rfl) (⟨impl_below_r0, trivial⟩ : (∀ p, run impl_below_x (subc [1, 1, 0, 1, 0, 0] c104) .nil (impl_below_J0.S p) (leaf impl_below_J0 impl_below_O0) = impl_below_B0 p) ∧ True), by kernel_rfl, fun x y => by kernel_rfl⟩
theorem impl_below_s : impl_below_D.Says Try.prog := impl_below_w.says follows tabOk slices_Compact_int_int_e_ok
noncomputable def impl_below_e : Env := more slices_Compact_int_int_e impl_below_D
theorem impl_below_e_ok : EnvOk Try.prog impl_below_e := more_ok slices_Compact_int_int_e_ok impl_below_s
/-! loop.example/g01128/impl.isRising -/
abbrev impl_isRising_J0 : Tpl := ⟨[(0, .val (.list I)), (1, .val I), (7, .val (.list I)), (8, .val I), (9, .val I)], [], []⟩
abbrev impl_isRising_J1 : Tpl := ⟨[(4, .val .bool)], [], []⟩
abbrev impl_isRising_J2 : Tpl := ⟨[], [], []⟩
abbrev impl_isRising_E : Ve.End := ⟨[⟨4, .shr, .bool, none⟩], []⟩
abbrev impl_isRising_a : List ASh := [.val (.list I), .val I]
abbrev impl_isRising_o : List OSh := []
abbrev impl_isRising_O0 : Out := .or .ret impl_isRising_J1 (.one (.ex 0) impl_isRising_J2)
noncomputable def impl_isRising_B0 : impl_isRising_J0.P → Option (impl_isRising_J0.P ⊕ impl_isRising_O0.P)
  | ((list, below, t7, t8, t9, ()), ()) => bif (decide (t9 < t8)) then (guardB (inb t9 (List.length t7)) (match impl_between ((List.getD t7 (Int.toNat t9) (0 : Int)), (0 : Int), (w64 (below - (1 : Int))), ()) () with | some ((r, ()), ()) => (bif (!r) then (some (.inr (.inl ((false, ()), ())))) else (bif (decide ((0 : Int) < t9)) then (guardB (inb (w64 (t9 - (1 : Int))) (List.length list)) (bif (decide ((List.getD t7 (Int.toNat t9) (0 : Int)) ≤ (List.getD list (Int.toNat (w64 (t9 - (1 : Int)))) (0 : Int)))) then (some (.inr (.inl ((false, ()), ())))) else (some (.inl ((list, below, t7, t8, (w64 (t9 + (1 : Int))), ()), ()))))) else (some (.inl ((list, below, t7, t8, (w64 (t9 + (1 : Int))), ()), ()))))) | none => none)) else (some (.inr (.inr ((), ()))))
noncomputable def impl_isRising : argP impl_isRising_a → obP (extObs 0 impl_isRising_o) → Option impl_isRising_E.P
  | (list, below, ()), () => match loopO impl_isRising_B0 ((list, below, list, (List.length list : Int), (0 : Int), ()), ()) with | some (.inl ((t4, ()), ())) => some ((t4, ()), ()) | some (.inr ((), ())) => some ((true, ()), ()) | none => none
noncomputable def impl_isRising_x : Cx := ⟨tab, impl_below_e, fun _ _ => 0, fun _ => false, [(17, 0), (17, 1), (17, 2), (17, 3)], []⟩
noncomputable def c145 : Code := bodyOf Try.f145
noncomputable def impl_isRising_A : Ann := .seq .nil (.seq (.seq .nil (.loop impl_isRising_J0 impl_isRising_O0 impl_isRising_B0 .nil)) .nil)
theorem impl_isRising_r0 (p : impl_isRising_J0.P) : run impl_isRising_x (subc [1, 0, 1, 0, 0] c145) .nil (impl_isRising_J0.S p) (leaf impl_isRising_J0 impl_isRising_O0) = impl_isRising_B0 p := by kernel_rfl
noncomputable def impl_isRising_D : Ve.Fn := ⟨145, impl_isRising_a, impl_isRising_o, impl_isRising_E, impl_isRising⟩
theorem impl_isRising_w : Walk Try.prog impl_isRising_x impl_isRising_D Try.f145 c145 33 impl_isRising_A :=
  ⟨⟨Try.func145, by kernel_rfl, by kernel_rfl, by kernel_rfl, by decide, by kernel_rfl, Nat.le_of_ble_eq_true (by kernel_rfl)⟩, by kernel_rfl, by kernel_rfl, by kernel_rfl, kcast (by kernel_rfl) (⟨impl_isRising_r0, trivial⟩ : (∀ p, run impl_isRising_x (subc [1, 0, 1, 0, 0] c145) .nil (impl_isRising_J0.S p) (leaf impl_isRising_J0 impl_isRising_O0) = impl_isRising_B0 p) ∧ True), by kernel_rfl, fun x y => by kernel_rfl⟩
theorem impl_isRising_s : impl_isRising_D.Says Try.prog := impl_isRising_w.says follows tabOk impl_below_e_ok
noncomputable def impl_isRising_e : Env := more impl_below_e impl_isRising_D
theorem impl_isRising_e_ok : EnvOk Try.prog impl_isRising_e := more_ok impl_below_e_ok impl_isRising_s
noncomputable def slices_Clone_int_int_e : Env := more impl_isRising_e (cloneFn 106)
theorem slices_Clone_int_int_e_ok : EnvOk Try.prog slices_Clone_int_int_e := more_ok impl_isRising_e_ok clone_s
noncomputable abbrev slices_Clone_int_int := (cloneFn 106).F
/-! cmp.Less[int] -/
abbrev cmp_Less_int_E : Ve.End := ⟨[⟨4, .shr, .bool, none⟩], []⟩
abbrev cmp_Less_int_a : List ASh := [.val I, .val I]
abbrev cmp_Less_int_o : List OSh := []
noncomputable def cmp_Less_int : argP cmp_Less_int_a → obP (extObs 0 cmp_Less_int_o) → Option cmp_Less_int_E.P
  | (x, y, ()), () => match cmp_isNaN_int (x, ()) () with | some ((r, ()), ()) => (bif r then (match cmp_isNaN_int (y, ()) () with | some ((r2, ()), ()) => (bif (!r2) then (some ((true, ()), ())) else (some (((decide (x < y)), ()), ()))) | none => none) else (some (((decide (x < y)), ()), ()))) | none => none
noncomputable def cmp_Less_int_x : Cx := ⟨tab, slices_Clone_int_int_e, fun _ _ => 0, fun _ => false, [(6, 0), (6, 1), (6, 2), (6, 3), (9, 0), (9, 1), (9, 2), (9, 3)], []⟩
noncomputable def c166 : Code := bodyOf Try.f166
noncomputable def cmp_Less_int_A : Ann := .nil
noncomputable def cmp_Less_int_D : Ve.Fn := ⟨166, cmp_Less_int_a, cmp_Less_int_o, cmp_Less_int_E, cmp_Less_int⟩
theorem cmp_Less_int_w : Walk Try.prog cmp_Less_int_x cmp_Less_int_D Try.f166 c166 17 cmp_Less_int_A :=
  ⟨⟨Try.func166, by kernel_rfl, by kernel_rfl, by kernel_rfl, by decide, by kernel_rfl, Nat.le_of_ble_eq_true (by kernel_rfl)⟩, by kernel_rfl, by kernel_rfl, by kernel_rfl, kcast (by kernel_rfl) trivial, by kernel_rfl, fun x y => by kernel_rfl⟩
theorem cmp_Less_int_s : cmp_Less_int_D.Says Try.prog := cmp_Less_int_w.says follows tabOk slices_Clone_int_int_e_ok
noncomputable def cmp_Less_int_e : Env := more slices_Clone_int_int_e cmp_Less_int_D
theorem cmp_Less_int_e_ok : EnvOk Try.prog cmp_Less_int_e := more_ok slices_Clone_int_int_e_ok cmp_Less_int_s
/-! slices.isNaN[int] -/
abbrev slices_isNaN_int_E : Ve.End := ⟨[⟨2, .shr, .bool, none⟩], []⟩
abbrev slices_isNaN_int_a : List ASh := [.val I]
abbrev slices_isNaN_int_o : List OSh := []
noncomputable def slices_isNaN_int : argP slices_isNaN_int_a → obP (extObs 0 slices_isNaN_int_o) → Option slices_isNaN_int_E.P
  | (x, ()), () => some (((x != x), ()), ())
noncomputable def slices_isNaN_int_x : Cx := ⟨tab, cmp_Less_int_e, fun _ _ => 0, fun _ => false, [], []⟩
noncomputable def c171 : Code := bodyOf Try.f171
noncomputable def slices_isNaN_int_A : Ann := .nil
noncomputable def slices_isNaN_int_D : Ve.Fn := ⟨171, slices_isNaN_int_a, slices_isNaN_int_o, slices_isNaN_int_E, slices_isNaN_int⟩
theorem slices_isNaN_int_w : Walk Try.prog slices_isNaN_int_x slices_isNaN_int_D Try.f171 c171 6 slices_isNaN_int_A :=
  ⟨⟨Try.func171, by kernel_rfl, by kernel_rfl, by kernel_rfl, by decide, by kernel_rfl, Nat.le_of_ble_eq_true (by kernel_rfl)⟩, by kernel_rfl, by kernel_rfl, by kernel_rfl, kcast (by kernel_rfl) trivial, by kernel_rfl, fun x y => by kernel_rfl⟩
theorem slices_isNaN_int_s : slices_isNaN_int_D.Says Try.prog := slices_isNaN_int_w.says follows tabOk cmp_Less_int_e_ok
noncomputable def slices_isNaN_int_e : Env := more cmp_Less_int_e slices_isNaN_int_D
theorem slices_isNaN_int_e_ok : EnvOk Try.prog slices_isNaN_int_e := more_ok cmp_Less_int_e_ok slices_isNaN_int_s
/-! slices.BinarySearch[[]int,int] -/
abbrev slices_BinarySearch_int_int_J0 : Tpl := ⟨[(0, .val (.list I)), (1, .val I), (6, .val I), (7, .val I), (8, .val I)], [], []⟩
abbrev slices_BinarySearch_int_int_J1 : Tpl := ⟨[(0, .val (.list I)), (1, .val I), (6, .val I), (7, .val I)], [], []⟩
abbrev slices_BinarySearch_int_int_E : Ve.End := ⟨[⟨4, .shr, I, none⟩, ⟨5, .shr, .bool, none⟩], []⟩
abbrev slices_BinarySearch_int_int_a : List ASh := [.val (.list I), .val I]
abbrev slices_BinarySearch_int_int_o : List OSh := []
abbrev slices_BinarySearch_int_int_O0 : Out := .one (.ex 0) slices_BinarySearch_int_int_J1
noncomputable def slices_BinarySearch_int_int_B0 : slices_BinarySearch_int_int_J0.P → Option (slices_BinarySearch_int_int_J0.P ⊕ slices_BinarySearch_int_int_O0.P)
  | ((x, target, n, i, j, ()), ()) => bif (decide (i < j)) then (guardB (inb (w64 (Int.fdiv (IntKind.wrap .u64 (w64 (i + j))) (2 ^ (min 1 64)))) (List.length x)) (match cmp_Less_int ((List.getD x (Int.toNat (w64 (Int.fdiv (IntKind.wrap .u64 (w64 (i + j))) (2 ^ (min 1 64))))) (0 : Int)), target, ()) () with | some ((r, ()), ()) => (bif r then (some (.inl ((x, target, n, (w64 ((w64 (Int.fdiv (IntKind.wrap .u64 (w64 (i + j))) (2 ^ (min 1 64)))) + (1 : Int))), j, ()), ()))) else (some (.inl ((x, target, n, i, (w64 (Int.fdiv (IntKind.wrap .u64 (w64 (i + j))) (2 ^ (min 1 64)))), ()), ())))) | none => none)) else (some (.inr ((x, target, n, i, ()), ())))
noncomputable def slices_BinarySearch_int_int : argP slices_BinarySearch_int_int_a → obP (extObs 0 slices_BinarySearch_int_int_o) → Option slices_BinarySearch_int_int_E.P
  | (x, target, ()), () => match loopO slices_BinarySearch_int_int_B0 ((x, target, (List.length x : Int), (0 : Int), (List.length x : Int), ()), ()) with | some ((x2, target2, n, i, ()), ()) => (bif (decide (i < n)) then (guardB (inb i (List.length x2)) (bif ((List.getD x2 (Int.toNat i) (0 : Int)) == target2) then (some ((i, true, ()), ())) else (guardB (inb i (List.length x2)) (match slices_isNaN_int ((List.getD x2 (Int.toNat i) (0 : Int)), ()) () with | some ((r, ()), ()) => (bif r then (match slices_isNaN_int (target2, ()) () with | some ((r2, ()), ()) => some ((i, r2, ()), ()) | none => none) else (some ((i, false, ()), ()))) | none => none)))) else (some ((i, false, ()), ()))) | none => none
noncomputable def slices_BinarySearch_int_int_x : Cx := ⟨tab, slices_isNaN_int_e, fun _ _ => 0, fun _ => false, [(27, 0), (27, 1), (27, 2), (27, 3), (47, 0), (47, 1), (47, 2), (47, 3), (50, 0), (50, 1), (50, 2), (50, 3)], []⟩
noncomputable def c146 : Code := bodyOf Try.f146
noncomputable def slices_BinarySearch_int_int_A : Ann := .seq .nil (.seq .nil (.seq .nil (.seq (.loop slices_BinarySearch_int_int_J0 slices_BinarySearch_int_int_O0 slices_BinarySearch_int_int_B0 .nil) .nil)))
theorem slices_BinarySearch_int_int_r0 (p : slices_BinarySearch_int_int_J0.P) : run slices_BinarySearch_int_int_x (subc [1, 1, 1, 0, 0, 0] c146) .nil (slices_BinarySearch_int_int_J0.S p) (leaf slices_BinarySearch_int_int_J0 slices_BinarySearch_int_int_O0) = slices_BinarySearch_int_int_B0 p := by kernel_rfl
noncomputable def slices_BinarySearch_int_int_D : Ve.Fn := ⟨146, slices_BinarySearch_int_int_a, slices_BinarySearch_int_int_o, slices_BinarySearch_int_int_E, slices_BinarySearch_int_int⟩
theorem slices_BinarySearch_int_int_w : Walk Try.prog slices_BinarySearch_int_int_x slices_BinarySearch_int_int_D Try.f146 c146 54 slices_BinarySearch_int_int_A :=
  ⟨⟨Try.func146, by kernel_rfl, by kernel_rfl, by kernel_rfl, by decide, by kernel_rfl, Nat.le_of_ble_eq_true (by kernel_rfl)⟩, by kernel_rfl, by kernel_rfl, by kernel_rfl, kcast (by kernel_rfl) (⟨slices_BinarySearch_int_int_r0, trivial⟩ : (∀ p, run slices_BinarySearch_int_int_x (subc [1, 1, 1, 0, 0, 0] c146) .nil (slices_BinarySearch_int_int_J0.S p) (leaf slices_BinarySearch_int_int_J0 slices_BinarySearch_int_int_O0) = slices_BinarySearch_int_int_B0 p) ∧ True), by kernel_rfl, fun x y => by kernel_rfl⟩
theorem slices_BinarySearch_int_int_s : slices_BinarySearch_int_int_D.Says Try.prog := slices_BinarySearch_int_int_w.says follows tabOk slices_isNaN_int_e_ok
noncomputable def slices_BinarySearch_int_int_e : Env := more slices_isNaN_int_e slices_BinarySearch_int_int_D
theorem slices_BinarySearch_int_int_e_ok : EnvOk Try.prog slices_BinarySearch_int_int_e := more_ok slices_isNaN_int_e_ok slices_BinarySearch_int_int_s
/-! loop.example/g01128/impl.InducedSpace -/
abbrev impl_InducedSpace_J0 : Tpl := ⟨[(1, .val (.list I)), (2, .cst (.prod (.list (.list I)) (.list (.prod I I)))), (4, .ptr (4, 0)), (6, .ptr (6, 0)), (28, .val (.list I)), (29, .val I), (30, .val I)], [((4, 0), .box (.prod (.own (.own .shr)) (.own .shr)) (.prod (.list (.list I)) (.list (.prod I I)))), ((6, 0), .box (.prod (.own (.own .shr)) (.own .shr)) (.prod (.list (.list I)) (.list (.prod I I))))], []⟩
abbrev impl_InducedSpace_J1 : Tpl := ⟨[(1, .val (.list I)), (2, .cst (.prod (.list (.list I)) (.list (.prod I I)))), (4, .ptr (4, 0)), (6, .ptr (6, 0))], [((4, 0), .box (.prod (.own (.own .shr)) (.own .shr)) (.prod (.list (.list I)) (.list (.prod I I)))), ((6, 0), .box (.prod (.own (.own .shr)) (.own .shr)) (.prod (.list (.list I)) (.list (.prod I I))))], []⟩
abbrev impl_InducedSpace_J2 : Tpl := ⟨[(1, .val (.list I)), (4, .ptr (4, 0)), (6, .ptr (6, 0)), (47, .val (.list (.prod I I))), (48, .val I), (49, .val I)], [((4, 0), .box (.prod (.own (.own .shr)) (.own .shr)) (.prod (.list (.list I)) (.list (.prod I I)))), ((6, 0), .box (.prod (.own (.own .shr)) (.own .shr)) (.prod (.list (.list I)) (.list (.prod I I))))], []⟩
abbrev impl_InducedSpace_J3 : Tpl := ⟨[(4, .ptr (4, 0)), (6, .ptr (6, 0))], [((4, 0), .box (.prod (.own (.own .shr)) (.own .shr)) (.prod (.list (.list I)) (.list (.prod I I)))), ((6, 0), .box (.prod (.own (.own .shr)) (.own .shr)) (.prod (.list (.list I)) (.list (.prod I I))))], []⟩
abbrev impl_InducedSpace_J4 : Tpl := ⟨[(1, .val (.list I)), (2, .cst (.prod (.list (.list I)) (.list (.prod I I)))), (4, .ptr (4, 0)), (6, .ptr (6, 0)), (28, .val (.list I)), (29, .val I), (30, .val I), (34, .adp (6, 0) [.fst]), (40, .val (.list I))], [((4, 0), .box (.prod (.own (.own .shr)) (.own .shr)) (.prod (.list (.list I)) (.list (.prod I I)))), ((6, 0), .box (.prod (.own (.own .shr)) (.own .shr)) (.prod (.list (.list I)) (.list (.prod I I))))], []⟩
abbrev impl_InducedSpace_E : Ve.End := ⟨[⟨4, (.prod (.own (.own .shr)) (.own .shr)), (.prod (.list (.list I)) (.list (.prod I I))), some 30⟩, ⟨5, .shr, .bool, none⟩], []⟩
abbrev impl_InducedSpace_a : List ASh := [.val (.prod (.list (.list I)) (.list (.prod I I))), .val (.list I)]
abbrev impl_InducedSpace_o : List OSh := []
noncomputable def impl_InducedSpace_D0 : impl_InducedSpace_J4.P → Option impl_InducedSpace_J0.P
  | ((t1, t2, t28, t29, t30, t40, ()), (t4, t6, ())) => match slices_Clone_int_int (t40, ()) () with | some ((r, ()), ()) => guardB (decide ((List.length t6.1 + List.length [r]) * 24 ≤ 70368744177664)) (some ((t1, t2, t28, t29, t30, ()), (t4, ((t6.1 ++ [r]), t6.2), ()))) | none => none
noncomputable def impl_InducedSpace_T0 : DT impl_InducedSpace_J0 := .node impl_InducedSpace_J4 impl_InducedSpace_D0 (.br [(1, .sole), (7, .sole), (8, .sole), (9, .sole), (10, .flo), (11, .sole)] .fin (.br [(7, .sole), (1, .qui), (8, .sole), (9, .sole), (10, .flo), (11, .sole)] .fin .nobr))
abbrev impl_InducedSpace_O0 : Out := .one (.ex 0) impl_InducedSpace_J1
noncomputable def impl_InducedSpace_B0 : impl_InducedSpace_J0.P → Option (impl_InducedSpace_J0.P ⊕ impl_InducedSpace_O0.P)
  | ((t1, t2, t28, t29, t30, ()), (t4, t6, ())) => bif (decide (t30 < t29)) then (guardB (inb t30 (List.length t28)) (guardB (inb (List.getD t28 (Int.toNat t30) (0 : Int)) (List.length t2.1)) (match impl_InducedSpace_D0 ((t1, t2, t28, t29, t30, (List.getD t2.1 (Int.toNat (List.getD t28 (Int.toNat t30) (0 : Int))) ([] : (List Int))), ()), (t4, t6, ())) with | some ((t1_2, t2_2, t28_2, t29_2, t30_2, ()), (t4_2, t6_2, ())) => some (.inl ((t1_2, t2_2, t28_2, t29_2, (w64 (t30_2 + (1 : Int))), ()), (t4_2, t6_2, ()))) | none => none))) else (some (.inr ((t1, t2, ()), (t4, t6, ()))))
abbrev impl_InducedSpace_O1 : Out := .one (.ex 2) impl_InducedSpace_J3
noncomputable def impl_InducedSpace_B1 : impl_InducedSpace_J2.P → Option (impl_InducedSpace_J2.P ⊕ impl_InducedSpace_O1.P)
  | ((t1, t47, t48, t49, ()), (t4, t6, ())) => bif (decide (t49 < t48)) then (guardB (inb t49 (List.length t47)) (match slices_BinarySearch_int_int (t1, (List.getD t47 (Int.toNat t49) ((0 : Int), (0 : Int))).1, ()) () with | some ((r, r2, ()), ()) => (match slices_BinarySearch_int_int (t1, (List.getD t47 (Int.toNat t49) ((0 : Int), (0 : Int))).2, ()) () with | some ((r3, r4, ()), ()) => (bif r2 then (bif r4 then (guardB (decide ((List.length t6.2 + List.length [(r, r3)]) * 16 ≤ 70368744177664)) (some (.inl ((t1, t47, t48, (w64 (t49 + (1 : Int))), ()), (t4, (t6.1, (t6.2 ++ [(r, r3)])), ()))))) else (some (.inl ((t1, t47, t48, (w64 (t49 + (1 : Int))), ()), (t4, t6, ()))))) else (some (.inl ((t1, t47, t48, (w64 (t49 + (1 : Int))), ()), (t4, t6, ()))))) | none => none) | none => none)) else (some (.inr ((), (t4, t6, ()))))
noncomputable def impl_InducedSpace : argP impl_InducedSpace_a → obP (extObs 0 impl_InducedSpace_o) → Option impl_InducedSpace_E.P
  | (t0, t1, ()), () => match impl_IsSpace (t0, ()) () with | some ((r, ()), ()) => (bif (!r) then (some (((([] : (List (List Int))), ([] : (List (Int × Int)))), false, ()), ())) else (match impl_isRising (t1, (List.length t0.1 : Int), ()) () with | some ((r2, ()), ()) => (bif (!r2) then (some (((([] : (List (List Int))), ([] : (List (Int × Int)))), false, ()), ())) else (match loopO impl_InducedSpace_B0 ((t1, t0, t1, (List.length t1 : Int), (0 : Int), ()), ((([] : (List (List Int))), ([] : (List (Int × Int)))), (([] : (List (List Int))), ([] : (List (Int × Int)))), ())) with | some ((t1_2, t2, ()), (t4, t6, ())) => (match loopO impl_InducedSpace_B1 ((t1_2, t2.2, (List.length t2.2 : Int), (0 : Int), ()), (t4, t6, ())) with | some ((), (t4_2, t6_2, ())) => some (((t6_2.1, t6_2.2), true, ()), ()) | none => none) | none => none)) | none => none)) | none => none
noncomputable def impl_InducedSpace_x : Cx := ⟨tab, slices_BinarySearch_int_int_e, fun _ _ => 0, fun _ => false, [(16, 0), (16, 1), (16, 2), (16, 3), (23, 0), (23, 1), (23, 2), (23, 3), (57, 0), (57, 1), (57, 2), (57, 3), (64, 0), (64, 1), (64, 2), (64, 3), (76, 0)], [(2, 0), (10, 0)]⟩
noncomputable def c103 : Code := bodyOf Try.f103
noncomputable def impl_InducedSpace_A : Ann := .seq .nil (.seq .nil (.seq .nil (.seq (.seq .nil (.loop impl_InducedSpace_J0 impl_InducedSpace_O0 impl_InducedSpace_B0 (.seq .nil (.seq .nil (.seq (.seq .nil (.draws [(0, .flo), (2, .flo), (3, .flo), (4, .flo), (5, .flo), (6, .flo)] impl_InducedSpace_J0 impl_InducedSpace_T0)) .nil))))) (.seq (.seq .nil (.loop impl_InducedSpace_J2 impl_InducedSpace_O1 impl_InducedSpace_B1 .nil)) .nil))))
theorem impl_InducedSpace_r0 (p : impl_InducedSpace_J0.P) : run impl_InducedSpace_x (subc [1, 1, 1, 0, 1, 0, 0] c103) (.seq .nil (.seq .nil (.seq (.seq .nil (.draws [(0, .flo), (2, .flo), (3, .flo), (4, .flo), (5, .flo), (6, .flo)] impl_InducedSpace_J0 impl_InducedSpace_T0)) .nil))) (impl_InducedSpace_J0.S p) (leaf impl_InducedSpace_J0 impl_InducedSpace_O0) = impl_InducedSpace_B0 p := by kernel_rfl
theorem impl_InducedSpace_D0b0 (p : impl_InducedSpace_J4.P) : runDrawn impl_InducedSpace_x (opsOf (subc [1, 1, 1, 0, 1, 0, 0, 1, 1, 0, 0, 1] c103)) [(1, .sole), (7, .sole), (8, .sole), (9, .sole), (10, .flo), (11, .sole)] (impl_InducedSpace_J4.S p) (endT impl_InducedSpace_x (.fin : DT impl_InducedSpace_J0)) = impl_InducedSpace_D0 p := by kernel_rfl
theorem impl_InducedSpace_D0b1 (p : impl_InducedSpace_J4.P) : runDrawn impl_InducedSpace_x (opsOf (subc [1, 1, 1, 0, 1, 0, 0, 1, 1, 0, 0, 1] c103)) [(7, .sole), (1, .qui), (8, .sole), (9, .sole), (10, .flo), (11, .sole)] (impl_InducedSpace_J4.S p) (endT impl_InducedSpace_x (.fin : DT impl_InducedSpace_J0)) = impl_InducedSpace_D0 p := by kernel_rfl
theorem impl_InducedSpace_r2 (p : impl_InducedSpace_J2.P) : run impl_InducedSpace_x (subc [1, 1, 1, 1, 0, 1, 0, 0] c103) .nil (impl_InducedSpace_J2.S p) (leaf impl_InducedSpace_J2 impl_InducedSpace_O1) = impl_InducedSpace_B1 p := by kernel_rfl
noncomputable def impl_InducedSpace_D : Ve.Fn := ⟨103, impl_InducedSpace_a, impl_InducedSpace_o, impl_InducedSpace_E, impl_InducedSpace⟩
theorem impl_InducedSpace_w : Walk Try.prog impl_InducedSpace_x impl_InducedSpace_D Try.f103 c103 81 impl_InducedSpace_A :=
  ⟨⟨Try.func103, by kernel_rfl, by kernel_rfl, by kernel_rfl, by decide, by kernel_rfl, Nat.le_of_ble_eq_true (by kernel_rfl)⟩, by kernel_rfl, by kernel_rfl, by kernel_rfl, kcast (by kernel_rfl) (⟨impl_InducedSpace_r0, impl_InducedSpace_D0b0, impl_InducedSpace_D0b1, impl_InducedSpace_r2, trivial⟩ : (∀ p, run impl_InducedSpace_x (subc [1, 1, 1, 0, 1, 0, 0] c103) (.seq .nil (.seq .nil (.seq (.seq .nil (.draws [(0, .flo), (2, .flo), (3, .flo), (4, .flo), (5, .flo), (6, .flo)] impl_InducedSpace_J0 impl_InducedSpace_T0)) .nil))) (impl_InducedSpace_J0.S p) (leaf impl_InducedSpace_J0 impl_InducedSpace_O0) = impl_InducedSpace_B0 p) ∧ (∀ p, runDrawn impl_InducedSpace_x (opsOf (subc [1, 1, 1, 0, 1, 0, 0, 1, 1, 0, 0, 1] c103)) [(1, .sole), (7, .sole), (8, .sole), (9, .sole), (10, .flo), (11, .sole)] (impl_InducedSpace_J4.S p) (endT impl_InducedSpace_x (.fin : DT impl_InducedSpace_J0)) = impl_InducedSpace_D0 p) ∧ (∀ p, runDrawn impl_InducedSpace_x (opsOf (subc [1, 1, 1, 0, 1, 0, 0, 1, 1, 0, 0, 1] c103)) [(7, .sole), (1, .qui), (8, .sole), (9, .sole), (10, .flo), (11, .sole)] (impl_InducedSpace_J4.S p) (endT impl_InducedSpace_x (.fin : DT impl_InducedSpace_J0)) = impl_InducedSpace_D0 p) ∧ (∀ p, run impl_InducedSpace_x (subc [1, 1, 1, 1, 0, 1, 0, 0] c103) .nil (impl_InducedSpace_J2.S p) (leaf impl_InducedSpace_J2 impl_InducedSpace_O1) = impl_InducedSpace_B1 p) ∧ True), by kernel_rfl, fun x y => by kernel_rfl⟩
theorem impl_InducedSpace_s : impl_InducedSpace_D.Says Try.prog := impl_InducedSpace_w.says follows tabOk slices_BinarySearch_int_int_e_ok
noncomputable def impl_InducedSpace_e : Env := more slices_BinarySearch_int_int_e impl_InducedSpace_D
theorem impl_InducedSpace_e_ok : EnvOk Try.prog impl_InducedSpace_e := more_ok slices_BinarySearch_int_int_e_ok impl_InducedSpace_s
noncomputable def slices_Sort_int_int_e : Env := more impl_InducedSpace_e (sortFn 97)
theorem slices_Sort_int_int_e_ok : EnvOk Try.prog slices_Sort_int_int_e := more_ok impl_InducedSpace_e_ok sort_s
noncomputable abbrev slices_Sort_int_int := (sortFn 97).F
/-! (loop.example/g01128/impl.Space).roads -/
abbrev impl_Space_roads_J0 : Tpl := ⟨[(3, .own (.own .shr) (.list I)), (13, .val (.list (.prod I I))), (14, .val I), (15, .val I)], [], []⟩
abbrev impl_Space_roads_J1 : Tpl := ⟨[(3, .own (.own .shr) (.list I))], [], []⟩
abbrev impl_Space_roads_J2 : Tpl := ⟨[(3, .own (.own .shr) (.list I)), (46, .same (3, 0) []), (47, .val I), (48, .val I)], [], []⟩
abbrev impl_Space_roads_E : Ve.End := ⟨[⟨2, (.own (.own .shr)), (.list (.list I)), none⟩], []⟩
abbrev impl_Space_roads_a : List ASh := [.val (.prod (.list (.list I)) (.list (.prod I I)))]
abbrev impl_Space_roads_o : List OSh := []
abbrev impl_Space_roads_O0 : Out := .one (.ex 0) impl_Space_roads_J1
noncomputable def impl_Space_roads_B0 : impl_Space_roads_J0.P → Option (impl_Space_roads_J0.P ⊕ impl_Space_roads_O0.P)
  | ((out, t13, t14, t15, ()), ()) => bif (decide (t15 < t14)) then (guardB (inb t15 (List.length t13)) (guardB (inb ((List.getD t13 (Int.toNat t15) ((0 : Int), (0 : Int))).1) (List.length out)) (guardB (decide ((List.length (List.getD out (Int.toNat ((List.getD t13 (Int.toNat t15) ((0 : Int), (0 : Int))).1)) ([] : (List Int))) + List.length [(List.getD t13 (Int.toNat t15) ((0 : Int), (0 : Int))).2]) * 8 ≤ 70368744177664)) (guardB (inb ((List.getD t13 (Int.toNat t15) ((0 : Int), (0 : Int))).1) (List.length out)) (guardB (Nat.beq (Int.toNat ((List.getD t13 (Int.toNat t15) ((0 : Int), (0 : Int))).1)) (Int.toNat ((List.getD t13 (Int.toNat t15) ((0 : Int), (0 : Int))).1)) && true) (guardB (inb ((List.getD t13 (Int.toNat t15) ((0 : Int), (0 : Int))).2) (List.length (List.set out (Int.toNat ((List.getD t13 (Int.toNat t15) ((0 : Int), (0 : Int))).1)) ((List.getD out (Int.toNat ((List.getD t13 (Int.toNat t15) ((0 : Int), (0 : Int))).1)) ([] : (List Int))) ++ [(List.getD t13 (Int.toNat t15) ((0 : Int), (0 : Int))).2])))) (guardB (decide ((List.length (List.getD (List.set out (Int.toNat ((List.getD t13 (Int.toNat t15) ((0 : Int), (0 : Int))).1)) ((List.getD out (Int.toNat ((List.getD t13 (Int.toNat t15) ((0 : Int), (0 : Int))).1)) ([] : (List Int))) ++ [(List.getD t13 (Int.toNat t15) ((0 : Int), (0 : Int))).2])) (Int.toNat ((List.getD t13 (Int.toNat t15) ((0 : Int), (0 : Int))).2)) ([] : (List Int))) + List.length [(List.getD t13 (Int.toNat t15) ((0 : Int), (0 : Int))).1]) * 8 ≤ 70368744177664)) (guardB (inb ((List.getD t13 (Int.toNat t15) ((0 : Int), (0 : Int))).2) (List.length (List.set out (Int.toNat ((List.getD t13 (Int.toNat t15) ((0 : Int), (0 : Int))).1)) ((List.getD out (Int.toNat ((List.getD t13 (Int.toNat t15) ((0 : Int), (0 : Int))).1)) ([] : (List Int))) ++ [(List.getD t13 (Int.toNat t15) ((0 : Int), (0 : Int))).2])))) (guardB (Nat.beq (Int.toNat ((List.getD t13 (Int.toNat t15) ((0 : Int), (0 : Int))).2)) (Int.toNat ((List.getD t13 (Int.toNat t15) ((0 : Int), (0 : Int))).2)) && true) (some (.inl (((List.set (List.set out (Int.toNat ((List.getD t13 (Int.toNat t15) ((0 : Int), (0 : Int))).1)) ((List.getD out (Int.toNat ((List.getD t13 (Int.toNat t15) ((0 : Int), (0 : Int))).1)) ([] : (List Int))) ++ [(List.getD t13 (Int.toNat t15) ((0 : Int), (0 : Int))).2])) (Int.toNat ((List.getD t13 (Int.toNat t15) ((0 : Int), (0 : Int))).2)) ((List.getD (List.set out (Int.toNat ((List.getD t13 (Int.toNat t15) ((0 : Int), (0 : Int))).1)) ((List.getD out (Int.toNat ((List.getD t13 (Int.toNat t15) ((0 : Int), (0 : Int))).1)) ([] : (List Int))) ++ [(List.getD t13 (Int.toNat t15) ((0 : Int), (0 : Int))).2])) (Int.toNat ((List.getD t13 (Int.toNat t15) ((0 : Int), (0 : Int))).2)) ([] : (List Int))) ++ [(List.getD t13 (Int.toNat t15) ((0 : Int), (0 : Int))).1])), t13, t14, (w64 (t15 + (1 : Int))), ()), ())))))))))))) else (some (.inr ((out, ()), ())))
abbrev impl_Space_roads_O1 : Out := .one (.ex 2) impl_Space_roads_J1
noncomputable def impl_Space_roads_B1 : impl_Space_roads_J2.P → Option (impl_Space_roads_J2.P ⊕ impl_Space_roads_O1.P)
  | ((out, t47, t48, ()), ()) => bif (decide (t48 < t47)) then (guardB (inb t48 (List.length out)) (match slices_Sort_int_int () ((List.getD out (Int.toNat t48) ([] : (List Int))), ()) with | some ((), (o, ())) => some (.inl (((List.set out (Int.toNat t48) o), t47, (w64 (t48 + (1 : Int))), ()), ())) | none => none)) else (some (.inr ((out, ()), ())))
noncomputable def impl_Space_roads : argP impl_Space_roads_a → obP (extObs 0 impl_Space_roads_o) → Option impl_Space_roads_E.P
  | (x, ()), () => guardB (decide (0 ≤ (List.length x.1 : Int)) && decide ((List.length x.1 : Int) ≤ (List.length x.1 : Int)) && decide ((List.length x.1 : Int) * 24 ≤ 140737488355328)) (match loopO impl_Space_roads_B0 (((List.replicate (Int.toNat (List.length x.1 : Int)) ([] : (List Int))), x.2, (List.length x.2 : Int), (0 : Int), ()), ()) with | some ((out, ()), ()) => (match loopO impl_Space_roads_B1 ((out, (List.length out : Int), (0 : Int), ()), ()) with | some ((out2, ()), ()) => some ((out2, ()), ()) | none => none) | none => none)
noncomputable def impl_Space_roads_x : Cx := ⟨tab, slices_Sort_int_int_e, fun f n => bif Nat.beq f 97 && Nat.beq n 0 then 1 else 0, fun _ => false, [(29, 0), (42, 0), (53, 0), (53, 1), (53, 2), (53, 3)], [(1, 0), (5, 0)]⟩
noncomputable def c65 : Code := bodyOf Try.f65
noncomputable def impl_Space_roads_A : Ann := .seq .nil (.seq .nil (.seq (.seq .nil (.loop impl_Space_roads_J0 impl_Space_roads_O0 impl_Space_roads_B0 (.seq .nil (.seq .nil (.seq (.seq .nil (.seq (.draw [(0, .flo), (1, .flo), (2, .flo), (3, .flo), (4, .flo), (5, .flo), (6, .flo), (8, .flo), (9, .flo), (7, .qui), (10, .sole), (11, .sole), (12, .flo), (13, .sole)]) (.draw [(0, .flo), (1, .flo), (2, .flo), (3, .flo), (4, .flo), (5, .flo), (6, .flo), (8, .flo), (9, .flo), (7, .qui), (10, .sole), (11, .sole), (12, .flo), (13, .sole)]))) .nil))))) (.seq (.seq .nil (.loop impl_Space_roads_J2 impl_Space_roads_O1 impl_Space_roads_B1 .nil)) .nil)))
theorem impl_Space_roads_r0 (p : impl_Space_roads_J0.P) : run impl_Space_roads_x (subc [1, 1, 0, 1, 0, 0] c65) (.seq .nil (.seq .nil (.seq (.seq .nil (.seq (.draw [(0, .flo), (1, .flo), (2, .flo), (3, .flo), (4, .flo), (5, .flo), (6, .flo), (8, .flo), (9, .flo), (7, .qui), (10, .sole), (11, .sole), (12, .flo), (13, .sole)]) (.draw [(0, .flo), (1, .flo), (2, .flo), (3, .flo), (4, .flo), (5, .flo), (6, .flo), (8, .flo), (9, .flo), (7, .qui), (10, .sole), (11, .sole), (12, .flo), (13, .sole)]))) .nil))) (impl_Space_roads_J0.S p) (leaf impl_Space_roads_J0 impl_Space_roads_O0) = impl_Space_roads_B0 p := by kernel_rfl
theorem impl_Space_roads_r1 (p : impl_Space_roads_J2.P) : run impl_Space_roads_x (subc [1, 1, 1, 0, 1, 0, 0] c65) .nil (impl_Space_roads_J2.S p) (leaf impl_Space_roads_J2 impl_Space_roads_O1) = impl_Space_roads_B1 p := by kernel_rfl
noncomputable def impl_Space_roads_D : Ve.Fn := ⟨65, impl_Space_roads_a, impl_Space_roads_o, impl_Space_roads_E, impl_Space_roads⟩
theorem impl_Space_roads_w : Walk Try.prog impl_Space_roads_x impl_Space_roads_D Try.f65 c65 56 impl_Space_roads_A :=
  ⟨⟨Try.func65, by kernel_rfl, by kernel_rfl, by kernel_rfl, by decide, by kernel_rfl, Nat.le_of_ble_eq_true (by kernel_rfl)⟩, by kernel_rfl, by kernel_rfl, by kernel_rfl, kcast (by kernel_rfl) (⟨impl_Space_roads_r0, impl_Space_roads_r1, trivial⟩ : (∀ p, run impl_Space_roads_x (subc [1, 1, 0, 1, 0, 0] c65) (.seq .nil (.seq .nil (.seq (.seq .nil (.seq (.draw [(0, .flo), (1, .flo), (2, .flo), (3, .flo), (4, .flo), (5, .flo), (6, .flo), (8, .flo), (9, .flo), (7, .qui), (10, .sole), (11, .sole), (12, .flo), (13, .sole)]) (.draw [(0, .flo), (1, .flo), (2, .flo), (3, .flo), (4, .flo), (5, .flo), (6, .flo), (8, .flo), (9, .flo), (7, .qui), (10, .sole), (11, .sole), (12, .flo), (13, .sole)]))) .nil))) (impl_Space_roads_J0.S p) (leaf impl_Space_roads_J0 impl_Space_roads_O0) = impl_Space_roads_B0 p) ∧ (∀ p, run impl_Space_roads_x (subc [1, 1, 1, 0, 1, 0, 0] c65) .nil (impl_Space_roads_J2.S p) (leaf impl_Space_roads_J2 impl_Space_roads_O1) = impl_Space_roads_B1 p) ∧ True), by kernel_rfl, fun x y => by kernel_rfl⟩
theorem impl_Space_roads_s : impl_Space_roads_D.Says Try.prog := impl_Space_roads_w.says follows tabOk slices_Sort_int_int_e_ok
noncomputable def impl_Space_roads_e : Env := more slices_Sort_int_int_e impl_Space_roads_D
theorem impl_Space_roads_e_ok : EnvOk Try.prog impl_Space_roads_e := more_ok slices_Sort_int_int_e_ok impl_Space_roads_s
/-! math/bits.Mul64 -/
abbrev bits_Mul64_E : Ve.End := ⟨[⟨4, .shr, (.int .u64), none⟩, ⟨5, .shr, (.int .u64), none⟩], []⟩
abbrev bits_Mul64_a : List ASh := [.val (.int .u64), .val (.int .u64)]
abbrev bits_Mul64_o : List OSh := []
noncomputable def bits_Mul64 : argP bits_Mul64_a → obP (extObs 0 bits_Mul64_o) → Option bits_Mul64_E.P
  | (x, y, ()), () => some (((IntKind.wrap .u64 ((IntKind.wrap .u64 ((IntKind.wrap .u64 ((Int.fdiv x (2 ^ (min 32 64))) * (Int.fdiv y (2 ^ (min 32 64))))) + (Int.fdiv (IntKind.wrap .u64 ((IntKind.wrap .u64 ((Int.fdiv x (2 ^ (min 32 64))) * (IntKind.wrap .u64 (BitVec.ofInt 64 y &&& BitVec.ofInt 64 (4294967295 : Int)).toNat))) + (Int.fdiv (IntKind.wrap .u64 ((IntKind.wrap .u64 (BitVec.ofInt 64 x &&& BitVec.ofInt 64 (4294967295 : Int)).toNat) * (IntKind.wrap .u64 (BitVec.ofInt 64 y &&& BitVec.ofInt 64 (4294967295 : Int)).toNat))) (2 ^ (min 32 64))))) (2 ^ (min 32 64))))) + (Int.fdiv (IntKind.wrap .u64 ((IntKind.wrap .u64 (BitVec.ofInt 64 (IntKind.wrap .u64 ((IntKind.wrap .u64 ((Int.fdiv x (2 ^ (min 32 64))) * (IntKind.wrap .u64 (BitVec.ofInt 64 y &&& BitVec.ofInt 64 (4294967295 : Int)).toNat))) + (Int.fdiv (IntKind.wrap .u64 ((IntKind.wrap .u64 (BitVec.ofInt 64 x &&& BitVec.ofInt 64 (4294967295 : Int)).toNat) * (IntKind.wrap .u64 (BitVec.ofInt 64 y &&& BitVec.ofInt 64 (4294967295 : Int)).toNat))) (2 ^ (min 32 64))))) &&& BitVec.ofInt 64 (4294967295 : Int)).toNat) + (IntKind.wrap .u64 ((IntKind.wrap .u64 (BitVec.ofInt 64 x &&& BitVec.ofInt 64 (4294967295 : Int)).toNat) * (Int.fdiv y (2 ^ (min 32 64))))))) (2 ^ (min 32 64))))), (IntKind.wrap .u64 (x * y)), ()), ())
noncomputable def bits_Mul64_x : Cx := ⟨tab, impl_Space_roads_e, fun _ _ => 0, fun _ => false, [], []⟩
noncomputable def c175 : Code := bodyOf Try.f175
noncomputable def bits_Mul64_A : Ann := .nil
noncomputable def bits_Mul64_D : Ve.Fn := ⟨175, bits_Mul64_a, bits_Mul64_o, bits_Mul64_E, bits_Mul64⟩
theorem bits_Mul64_w : Walk Try.prog bits_Mul64_x bits_Mul64_D Try.f175 c175 51 bits_Mul64_A :=
  ⟨⟨Try.func175, by kernel_rfl, by kernel_rfl, by kernel_rfl, by decide, by kernel_rfl, Nat.le_of_ble_eq_true (by kernel_rfl)⟩, by kernel_rfl, by kernel_rfl, by kernel_rfl, kcast (by kernel_rfl) trivial, by kernel_rfl, fun x y => by kernel_rfl⟩
theorem bits_Mul64_s : bits_Mul64_D.Says Try.prog := bits_Mul64_w.says follows tabOk impl_Space_roads_e_ok
noncomputable def bits_Mul64_e : Env := more impl_Space_roads_e bits_Mul64_D
theorem bits_Mul64_e_ok : EnvOk Try.prog bits_Mul64_e := more_ok impl_Space_roads_e_ok bits_Mul64_s
/-! math/bits.Mul -/
abbrev bits_Mul_E : Ve.End := ⟨[⟨4, .shr, (.int .u64), none⟩, ⟨5, .shr, (.int .u64), none⟩], []⟩
abbrev bits_Mul_a : List ASh := [.val (.int .u64), .val (.int .u64)]
abbrev bits_Mul_o : List OSh := []
noncomputable def bits_Mul : argP bits_Mul_a → obP (extObs 0 bits_Mul_o) → Option bits_Mul_E.P
  | (x, y, ()), () => match bits_Mul64 (x, y, ()) () with | some ((hi, lo, ()), ()) => some ((hi, lo, ()), ()) | none => none
noncomputable def bits_Mul_x : Cx := ⟨tab, bits_Mul64_e, fun _ _ => 0, fun _ => false, [(15, 0), (15, 1), (15, 2), (15, 3), (25, 0), (25, 1), (25, 2), (25, 3)], []⟩
noncomputable def c156 : Code := bodyOf Try.f156
noncomputable def bits_Mul_A : Ann := .nil
noncomputable def bits_Mul_D : Ve.Fn := ⟨156, bits_Mul_a, bits_Mul_o, bits_Mul_E, bits_Mul⟩
theorem bits_Mul_w : Walk Try.prog bits_Mul_x bits_Mul_D Try.f156 c156 30 bits_Mul_A :=
  ⟨⟨Try.func156, by kernel_rfl, by kernel_rfl, by kernel_rfl, by decide, by kernel_rfl, Nat.le_of_ble_eq_true (by kernel_rfl)⟩, by kernel_rfl, by kernel_rfl, by kernel_rfl, kcast (by kernel_rfl) trivial, by kernel_rfl, fun x y => by kernel_rfl⟩
theorem bits_Mul_s : bits_Mul_D.Says Try.prog := bits_Mul_w.says follows tabOk bits_Mul64_e_ok
noncomputable def bits_Mul_e : Env := more bits_Mul64_e bits_Mul_D
theorem bits_Mul_e_ok : EnvOk Try.prog bits_Mul_e := more_ok bits_Mul64_e_ok bits_Mul_s
/-! slices.Repeat[[]int,int] -/
abbrev slices_Repeat_int_int_J0 : Tpl := ⟨[(7, .own .shr I), (8, .val I)], [], []⟩
abbrev slices_Repeat_int_int_J1 : Tpl := ⟨[(7, .own .shr I)], [], []⟩
abbrev slices_Repeat_int_int_E : Ve.End := ⟨[⟨4, (.own .shr), (.list I), none⟩], []⟩
abbrev slices_Repeat_int_int_a : List ASh := [.val (.list I), .val I]
abbrev slices_Repeat_int_int_o : List OSh := []
abbrev slices_Repeat_int_int_O0 : Out := .one (.ex 0) slices_Repeat_int_int_J1
noncomputable def slices_Repeat_int_int_B0 : slices_Repeat_int_int_J0.P → Option (slices_Repeat_int_int_J0.P ⊕ slices_Repeat_int_int_O0.P)
  | ((newslice, n, ()), ()) => bif (decide (n < (List.length newslice : Int))) then (guardB (decide (0 ≤ n) && decide (n ≤ (List.length newslice : Int)) && decide ((List.length newslice : Int) ≤ (List.length newslice : Int))) (guardB (decide (0 ≤ (0 : Int)) && decide ((0 : Int) ≤ n) && decide (n ≤ (List.length newslice : Int))) (guardB (decide ((Int.toNat n) ≤ (Int.toNat (List.length newslice : Int))) && decide ((Int.toNat (List.length newslice : Int)) ≤ List.length newslice)) (some (.inl (((List.take (Int.toNat n) newslice ++ List.take (min (List.length (List.drop 0 (List.take (Int.toNat n) newslice))) ((Int.toNat (List.length newslice : Int)) - (Int.toNat n))) (List.drop 0 (List.take (Int.toNat n) newslice)) ++ List.drop ((Int.toNat n) + (min (List.length (List.drop 0 (List.take (Int.toNat n) newslice))) ((Int.toNat (List.length newslice : Int)) - (Int.toNat n)))) newslice), (w64 (n + (((min (List.length (List.drop 0 (List.take (Int.toNat n) newslice))) ((Int.toNat (List.length newslice : Int)) - (Int.toNat n))) : Nat) : Int))), ()), ())))))) else (some (.inr ((newslice, ()), ())))
noncomputable def slices_Repeat_int_int : argP slices_Repeat_int_int_a → obP (extObs 0 slices_Repeat_int_int_o) → Option slices_Repeat_int_int_E.P
  | (x, count, ()), () => bif (decide (count < (0 : Int))) then none else (match bits_Mul ((IntKind.wrap .u64 (List.length x : Int)), (IntKind.wrap .u64 count), ()) () with | some ((hi, lo, ()), ()) => (bif (decide ((0 : Int) < hi)) then none else (bif (decide ((9223372036854775807 : Int) < lo)) then none else (guardB (decide (0 ≤ (w64 lo)) && decide ((w64 lo) ≤ (w64 lo)) && decide ((w64 lo) * 8 ≤ 140737488355328)) (guardB (decide (0 ≤ List.length (List.replicate (Int.toNat (w64 lo)) (0 : Int))) && decide (List.length (List.replicate (Int.toNat (w64 lo)) (0 : Int)) ≤ List.length (List.replicate (Int.toNat (w64 lo)) (0 : Int)))) (match loopO slices_Repeat_int_int_B0 (((List.take 0 (List.replicate (Int.toNat (w64 lo)) (0 : Int)) ++ List.take (min (List.length x) (List.length (List.replicate (Int.toNat (w64 lo)) (0 : Int)) - 0)) x ++ List.drop (0 + (min (List.length x) (List.length (List.replicate (Int.toNat (w64 lo)) (0 : Int)) - 0))) (List.replicate (Int.toNat (w64 lo)) (0 : Int))), (((min (List.length x) (List.length (List.replicate (Int.toNat (w64 lo)) (0 : Int)) - 0)) : Nat) : Int), ()), ()) with | some ((newslice, ()), ()) => some ((newslice, ()), ()) | none => none))))) | none => none)
noncomputable def slices_Repeat_int_int_x : Cx := ⟨tab, bits_Mul_e, fun _ _ => 0, fun _ => false, [(18, 0), (18, 1), (18, 2), (18, 3)], []⟩
noncomputable def c132 : Code := bodyOf Try.f132
noncomputable def slices_Repeat_int_int_A : Ann := .seq .nil (.seq .nil (.seq .nil (.seq .nil (.seq .nil (.seq .nil (.seq (.loop slices_Repeat_int_int_J0 slices_Repeat_int_int_O0 slices_Repeat_int_int_B0 (.seq .nil (.draw [(0, .flo), (1, .flo), (2, .flo), (3, .flo), (4, .flo), (5, .flo), (6, .flo), (7, .sole), (8, .flo), (9, .flo)]))) .nil))))))
theorem slices_Repeat_int_int_r0 (p : slices_Repeat_int_int_J0.P) : run slices_Repeat_int_int_x (subc [1, 1, 1, 1, 1, 1, 0, 0, 0] c132) (.seq .nil (.draw [(0, .flo), (1, .flo), (2, .flo), (3, .flo), (4, .flo), (5, .flo), (6, .flo), (7, .sole), (8, .flo), (9, .flo)])) (slices_Repeat_int_int_J0.S p) (leaf slices_Repeat_int_int_J0 slices_Repeat_int_int_O0) = slices_Repeat_int_int_B0 p := by kernel_rfl
noncomputable def slices_Repeat_int_int_D : Ve.Fn := ⟨132, slices_Repeat_int_int_a, slices_Repeat_int_int_o, slices_Repeat_int_int_E, slices_Repeat_int_int⟩
theorem slices_Repeat_int_int_w : Walk Try.prog slices_Repeat_int_int_x slices_Repeat_int_int_D Try.f132 c132 48 slices_Repeat_int_int_A :=
  ⟨⟨Try.func132, by kernel_rfl, by kernel_rfl, by kernel_rfl, by decide, by kernel_rfl, Nat.le_of_ble_eq_true (by kernel_rfl)⟩, by kernel_rfl, by kernel_rfl, by kernel_rfl, kcast (by kernel_rfl) (⟨slices_Repeat_int_int_r0, trivial⟩ : (∀ p, run slices_Repeat_int_int_x (subc [1, 1, 1, 1, 1, 1, 0, 0, 0] c132) (.seq .nil (.draw [(0, .flo), (1, .flo), (2, .flo), (3, .flo), (4, .flo), (5, .flo), (6, .flo), (7, .sole), (8, .flo), (9, .flo)])) (slices_Repeat_int_int_J0.S p) (leaf slices_Repeat_int_int_J0 slices_Repeat_int_int_O0) = slices_Repeat_int_int_B0 p) ∧ True), by kernel_rfl, fun x y => by kernel_rfl⟩
theorem slices_Repeat_int_int_s : slices_Repeat_int_int_D.Says Try.prog := slices_Repeat_int_int_w.says follows tabOk bits_Mul_e_ok
noncomputable def slices_Repeat_int_int_e : Env := more bits_Mul_e slices_Repeat_int_int_D
theorem slices_Repeat_int_int_e_ok : EnvOk Try.prog slices_Repeat_int_int_e := more_ok bits_Mul_e_ok slices_Repeat_int_int_s
/-! loop.example/g01128/impl.spread -/
abbrev impl_spread_J0 : Tpl := ⟨[(0, .val (.list (.list I))), (5, .own .shr I), (6, .own .shr I), (7, .val I), (30, .val (.list I)), (31, .val I), (32, .val I)], [], []⟩
abbrev impl_spread_J1 : Tpl := ⟨[(0, .val (.list (.list I))), (5, .own .shr I), (6, .own .shr I)], [], []⟩
abbrev impl_spread_J2 : Tpl := ⟨[(5, .own .shr I)], [], []⟩
abbrev impl_spread_E : Ve.End := ⟨[⟨4, (.own .shr), (.list I), none⟩], []⟩
abbrev impl_spread_a : List ASh := [.val (.list (.list I)), .val I]
abbrev impl_spread_o : List OSh := []
abbrev impl_spread_O0 : Out := .one (.ex 2) impl_spread_J1
noncomputable def impl_spread_B0 : impl_spread_J0.P → Option (impl_spread_J0.P ⊕ impl_spread_O0.P)
  | ((roads, out, queue, i, t30, t31, t32, ()), ()) => bif (decide (t32 < t31)) then (guardB (inb t32 (List.length t30)) (guardB (inb (List.getD t30 (Int.toNat t32) (0 : Int)) (List.length out)) (bif (decide ((List.getD out (Int.toNat (List.getD t30 (Int.toNat t32) (0 : Int))) (0 : Int)) < (0 : Int))) then (guardB (inb i (List.length out)) (guardB (inb (List.getD t30 (Int.toNat t32) (0 : Int)) (List.length out)) (guardB (decide ((List.length queue + List.length [(List.getD t30 (Int.toNat t32) (0 : Int))]) * 8 ≤ 70368744177664)) (some (.inl ((roads, (List.set out (Int.toNat (List.getD t30 (Int.toNat t32) (0 : Int))) (w64 ((List.getD out (Int.toNat i) (0 : Int)) + (1 : Int)))), (queue ++ [(List.getD t30 (Int.toNat t32) (0 : Int))]), i, t30, t31, (w64 (t32 + (1 : Int))), ()), ())))))) else (some (.inl ((roads, out, queue, i, t30, t31, (w64 (t32 + (1 : Int))), ()), ())))))) else (some (.inr ((roads, out, queue, ()), ())))
abbrev impl_spread_O1 : Out := .one (.ex 0) impl_spread_J2
noncomputable def impl_spread_B1 : impl_spread_J1.P → Option (impl_spread_J1.P ⊕ impl_spread_O1.P)
  | ((roads, out, queue, ()), ()) => bif (decide ((0 : Int) < (List.length queue : Int))) then (guardB (inb (0 : Int) (List.length queue)) (guardB (decide (0 ≤ (1 : Int)) && decide ((1 : Int) ≤ (List.length queue : Int)) && decide ((List.length queue : Int) ≤ (List.length queue : Int))) (guardB (inb (List.getD queue 0 (0 : Int)) (List.length roads)) (match loopO impl_spread_B0 ((roads, out, (List.drop 1 (List.take (Int.toNat (List.length queue : Int)) queue)), (List.getD queue 0 (0 : Int)), (List.getD roads (Int.toNat (List.getD queue 0 (0 : Int))) ([] : (List Int))), (List.length (List.getD roads (Int.toNat (List.getD queue 0 (0 : Int))) ([] : (List Int))) : Int), (0 : Int), ()), ()) with | some ((roads2, out2, queue2, ()), ()) => some (.inl ((roads2, out2, queue2, ()), ())) | none => none)))) else (some (.inr ((out, ()), ())))
noncomputable def impl_spread : argP impl_spread_a → obP (extObs 0 impl_spread_o) → Option impl_spread_E.P
  | (roads, from_, ()), () => match slices_Repeat_int_int ([(-1 : Int)], (List.length roads : Int), ()) () with | some ((r, ()), ()) => guardB (inb from_ (List.length r)) (match loopO impl_spread_B1 ((roads, (List.set r (Int.toNat from_) (0 : Int)), [from_], ()), ()) with | some ((out, ()), ()) => some ((out, ()), ()) | none => none) | none => none
noncomputable def impl_spread_x : Cx := ⟨tab, slices_Repeat_int_int_e, fun _ _ => 0, fun _ => false, [(10, 0), (51, 0)], []⟩
noncomputable def c81 : Code := bodyOf Try.f81
noncomputable def impl_spread_A : Ann := .seq .nil (.seq .nil (.seq .nil (.seq .nil (.seq (.loop impl_spread_J1 impl_spread_O1 impl_spread_B1 (.seq .nil (.seq .nil (.seq .nil (.seq .nil (.loop impl_spread_J0 impl_spread_O0 impl_spread_B0 .nil)))))) .nil))))
theorem impl_spread_r0 (p : impl_spread_J1.P) : run impl_spread_x (subc [1, 1, 1, 1, 0, 0, 0] c81) (.seq .nil (.seq .nil (.seq .nil (.seq .nil (.loop impl_spread_J0 impl_spread_O0 impl_spread_B0 .nil))))) (impl_spread_J1.S p) (leaf impl_spread_J1 impl_spread_O1) = impl_spread_B1 p := by kernel_rfl
theorem impl_spread_r1 (p : impl_spread_J0.P) : run impl_spread_x (subc [1, 1, 1, 1, 0, 0, 0, 1, 0, 1, 1, 1, 0, 0] c81) .nil (impl_spread_J0.S p) (leaf impl_spread_J0 impl_spread_O0) = impl_spread_B0 p := by kernel_rfl
noncomputable def impl_spread_D : Ve.Fn := ⟨81, impl_spread_a, impl_spread_o, impl_spread_E, impl_spread⟩
theorem impl_spread_w : Walk Try.prog impl_spread_x impl_spread_D Try.f81 c81 55 impl_spread_A :=
  ⟨⟨Try.func81, by kernel_rfl, by kernel_rfl, by kernel_rfl, by decide, by kernel_rfl, Nat.le_of_ble_eq_true (by kernel_rfl)⟩, by kernel_rfl, by kernel_rfl, by kernel_rfl, kcast (by kernel_rfl) (⟨impl_spread_r0, impl_spread_r1, trivial⟩ : (∀ p, run impl_spread_x (subc [1, 1, 1, 1, 0, 0, 0] c81) (.seq .nil (.seq .nil (.seq .nil (.seq .nil (.loop impl_spread_J0 impl_spread_O0 impl_spread_B0 .nil))))) (impl_spread_J1.S p) (leaf impl_spread_J1 impl_spread_O1) = impl_spread_B1 p) ∧ (∀ p, run impl_spread_x (subc [1, 1, 1, 1, 0, 0, 0, 1, 0, 1, 1, 1, 0, 0] c81) .nil (impl_spread_J0.S p) (leaf impl_spread_J0 impl_spread_O0) = impl_spread_B0 p) ∧ True), by kernel_rfl, fun x y => by kernel_rfl⟩
theorem impl_spread_s : impl_spread_D.Says Try.prog := impl_spread_w.says follows tabOk slices_Repeat_int_int_e_ok
noncomputable def impl_spread_e : Env := more slices_Repeat_int_int_e impl_spread_D
theorem impl_spread_e_ok : EnvOk Try.prog impl_spread_e := more_ok slices_Repeat_int_int_e_ok impl_spread_s
/-! (loop.example/g01128/impl.Space).firstWay -/
abbrev impl_Space_firstWay_J0 : Tpl := ⟨[(1, .val I), (2, .val I), (8, .val (.list (.list I))), (9, .val (.list I)), (10, .own .shr I), (31, .val (.list I)), (32, .val I), (33, .val I)], [], []⟩
abbrev impl_Space_firstWay_J1 : Tpl := ⟨[(1, .val I), (2, .val I), (8, .val (.list (.list I))), (9, .val (.list I)), (10, .own .shr I)], [], []⟩
abbrev impl_Space_firstWay_J2 : Tpl := ⟨[(10, .own .shr I)], [], []⟩
abbrev impl_Space_firstWay_E : Ve.End := ⟨[⟨6, (.own .shr), (.list I), none⟩, ⟨7, .shr, .bool, none⟩], []⟩
abbrev impl_Space_firstWay_a : List ASh := [.val (.prod (.list (.list I)) (.list (.prod I I))), .val I, .val I]
abbrev impl_Space_firstWay_o : List OSh := []
abbrev impl_Space_firstWay_O0 : Out := .one (.ex 2) impl_Space_firstWay_J1
noncomputable def impl_Space_firstWay_B0 : impl_Space_firstWay_J0.P → Option (impl_Space_firstWay_J0.P ⊕ impl_Space_firstWay_O0.P)
  | ((i, j, roads, far, out, t31, t32, t33, ()), ()) => bif (decide (t33 < t32)) then (guardB (inb t33 (List.length t31)) (guardB (inb (List.getD t31 (Int.toNat t33) (0 : Int)) (List.length far)) (guardB (inb i (List.length far)) (bif ((List.getD far (Int.toNat (List.getD t31 (Int.toNat t33) (0 : Int))) (0 : Int)) == (w64 ((List.getD far (Int.toNat i) (0 : Int)) - (1 : Int)))) then (some (.inr (((List.getD t31 (Int.toNat t33) (0 : Int)), j, roads, far, out, ()), ()))) else (some (.inl ((i, j, roads, far, out, t31, t32, (w64 (t33 + (1 : Int))), ()), ()))))))) else (some (.inr ((i, j, roads, far, out, ()), ())))
abbrev impl_Space_firstWay_O1 : Out := .one (.ex 0) impl_Space_firstWay_J2
noncomputable def impl_Space_firstWay_B1 : impl_Space_firstWay_J1.P → Option (impl_Space_firstWay_J1.P ⊕ impl_Space_firstWay_O1.P)
  | ((i, j, roads, far, out, ()), ()) => bif (i != j) then (guardB (inb i (List.length roads)) (match loopO impl_Space_firstWay_B0 ((i, j, roads, far, out, (List.getD roads (Int.toNat i) ([] : (List Int))), (List.length (List.getD roads (Int.toNat i) ([] : (List Int))) : Int), (0 : Int), ()), ()) with | some ((i2, j2, roads2, far2, out2, ()), ()) => guardB (decide ((List.length out2 + List.length [i2]) * 8 ≤ 70368744177664)) (some (.inl ((i2, j2, roads2, far2, (out2 ++ [i2]), ()), ()))) | none => none)) else (some (.inr ((out, ()), ())))
noncomputable def impl_Space_firstWay : argP impl_Space_firstWay_a → obP (extObs 0 impl_Space_firstWay_o) → Option impl_Space_firstWay_E.P
  | (x, i, j, ()), () => match impl_Space_roads (x, ()) () with | some ((r, ()), ()) => (match impl_spread (r, j, ()) () with | some ((r2, ()), ()) => guardB (inb i (List.length r2)) (bif (decide ((List.getD r2 (Int.toNat i) (0 : Int)) < (0 : Int))) then (some ((([] : (List Int)), false, ()), ())) else (match loopO impl_Space_firstWay_B1 ((i, j, r, r2, [i], ()), ()) with | some ((out, ()), ()) => some ((out, true, ()), ()) | none => none)) | none => none) | none => none
noncomputable def impl_Space_firstWay_x : Cx := ⟨tab, impl_spread_e, fun _ _ => 0, fun _ => false, [(14, 0), (14, 1), (14, 2), (14, 3), (8, 0), (17, 0), (17, 1), (17, 2), (17, 3), (9, 0), (51, 0)], [(3, 0)]⟩
noncomputable def c150 : Code := bodyOf Try.f150
noncomputable def impl_Space_firstWay_A : Ann := .seq .nil (.seq .nil (.seq .nil (.seq .nil (.seq .nil (.seq (.loop impl_Space_firstWay_J1 impl_Space_firstWay_O1 impl_Space_firstWay_B1 (.seq .nil (.seq (.seq .nil (.loop impl_Space_firstWay_J0 impl_Space_firstWay_O0 impl_Space_firstWay_B0 (.seq .nil (.seq .nil (.seq (.seq .nil (.seq (.draw [(0, .flo), (1, .flo), (2, .flo), (3, .flo), (4, .flo), (5, .flo), (6, .flo), (7, .flo), (8, .flo), (9, .flo)]) .nil)) .nil))))) .nil))) .nil)))))
theorem impl_Space_firstWay_r0 (p : impl_Space_firstWay_J1.P) : run impl_Space_firstWay_x (subc [1, 1, 1, 1, 1, 0, 0, 0] c150) (.seq .nil (.seq (.seq .nil (.loop impl_Space_firstWay_J0 impl_Space_firstWay_O0 impl_Space_firstWay_B0 (.seq .nil (.seq .nil (.seq (.seq .nil (.seq (.draw [(0, .flo), (1, .flo), (2, .flo), (3, .flo), (4, .flo), (5, .flo), (6, .flo), (7, .flo), (8, .flo), (9, .flo)]) .nil)) .nil))))) .nil)) (impl_Space_firstWay_J1.S p) (leaf impl_Space_firstWay_J1 impl_Space_firstWay_O1) = impl_Space_firstWay_B1 p := by kernel_rfl
theorem impl_Space_firstWay_r1 (p : impl_Space_firstWay_J0.P) : run impl_Space_firstWay_x (subc [1, 1, 1, 1, 1, 0, 0, 0, 1, 0, 0, 1, 0, 0] c150) (.seq .nil (.seq .nil (.seq (.seq .nil (.seq (.draw [(0, .flo), (1, .flo), (2, .flo), (3, .flo), (4, .flo), (5, .flo), (6, .flo), (7, .flo), (8, .flo), (9, .flo)]) .nil)) .nil))) (impl_Space_firstWay_J0.S p) (leaf impl_Space_firstWay_J0 impl_Space_firstWay_O0) = impl_Space_firstWay_B0 p := by kernel_rfl
noncomputable def impl_Space_firstWay_D : Ve.Fn := ⟨150, impl_Space_firstWay_a, impl_Space_firstWay_o, impl_Space_firstWay_E, impl_Space_firstWay⟩
theorem impl_Space_firstWay_w : Walk Try.prog impl_Space_firstWay_x impl_Space_firstWay_D Try.f150 c150 54 impl_Space_firstWay_A :=
  ⟨⟨Try.func150, by kernel_rfl, by kernel_rfl, by kernel_rfl, by decide, by kernel_rfl, Nat.le_of_ble_eq_true (by kernel_rfl)⟩, by kernel_rfl, by kernel_rfl, by kernel_rfl, kcast (by kernel_rfl) (⟨impl_Space_firstWay_r0, impl_Space_firstWay_r1, trivial⟩ : (∀ p, run impl_Space_firstWay_x (subc [1, 1, 1, 1, 1, 0, 0, 0] c150) (.seq .nil (.seq (.seq .nil (.loop impl_Space_firstWay_J0 impl_Space_firstWay_O0 impl_Space_firstWay_B0 (.seq .nil (.seq .nil (.seq (.seq .nil (.seq (.draw [(0, .flo), (1, .flo), (2, .flo), (3, .flo), (4, .flo), (5, .flo), (6, .flo), (7, .flo), (8, .flo), (9, .flo)]) .nil)) .nil))))) .nil)) (impl_Space_firstWay_J1.S p) (leaf impl_Space_firstWay_J1 impl_Space_firstWay_O1) = impl_Space_firstWay_B1 p) ∧ (∀ p, run impl_Space_firstWay_x (subc [1, 1, 1, 1, 1, 0, 0, 0, 1, 0, 0, 1, 0, 0] c150) (.seq .nil (.seq .nil (.seq (.seq .nil (.seq (.draw [(0, .flo), (1, .flo), (2, .flo), (3, .flo), (4, .flo), (5, .flo), (6, .flo), (7, .flo), (8, .flo), (9, .flo)]) .nil)) .nil))) (impl_Space_firstWay_J0.S p) (leaf impl_Space_firstWay_J0 impl_Space_firstWay_O0) = impl_Space_firstWay_B0 p) ∧ True), by kernel_rfl, fun x y => by kernel_rfl⟩
theorem impl_Space_firstWay_s : impl_Space_firstWay_D.Says Try.prog := impl_Space_firstWay_w.says follows tabOk impl_spread_e_ok
noncomputable def impl_Space_firstWay_e : Env := more impl_spread_e impl_Space_firstWay_D
theorem impl_Space_firstWay_e_ok : EnvOk Try.prog impl_Space_firstWay_e := more_ok impl_spread_e_ok impl_Space_firstWay_s
/-! (loop.example/g01128/impl.Space).lowWay -/
abbrev impl_Space_lowWay_J0 : Tpl := ⟨[(12, .val (.list I)), (19, .own .shr I), (67, .same (19, 0) []), (68, .val I), (69, .val I)], [], []⟩
abbrev impl_Space_lowWay_J1 : Tpl := ⟨[(19, .own .shr I)], [], []⟩
abbrev impl_Space_lowWay_J2 : Tpl := ⟨[(1, .val (.list I)), (2, .val I), (3, .val I), (4, .cst (.prod (.list (.list I)) (.list (.prod I I)))), (26, .val (.list I)), (27, .val I), (28, .val I)], [], []⟩
abbrev impl_Space_lowWay_J3 : Tpl := ⟨[(8, .own .shr I), (9, .val .bool)], [], []⟩
abbrev impl_Space_lowWay_J4 : Tpl := ⟨[], [], []⟩
abbrev impl_Space_lowWay_E : Ve.End := ⟨[⟨8, (.own .shr), (.list I), none⟩, ⟨9, .shr, .bool, none⟩], []⟩
abbrev impl_Space_lowWay_a : List ASh := [.val (.prod (.list (.list I)) (.list (.prod I I))), .val (.list I), .val I, .val I]
abbrev impl_Space_lowWay_o : List OSh := []
abbrev impl_Space_lowWay_O0 : Out := .one (.ex 2) impl_Space_lowWay_J1
noncomputable def impl_Space_lowWay_B0 : impl_Space_lowWay_J0.P → Option (impl_Space_lowWay_J0.P ⊕ impl_Space_lowWay_O0.P)
  | ((t12, t19, t68, t69, ()), ()) => bif (decide (t69 < t68)) then (guardB (inb t69 (List.length t19)) (guardB (inb (List.getD t19 (Int.toNat t69) (0 : Int)) (List.length t12)) (guardB (inb t69 (List.length t19)) (some (.inl ((t12, (List.set t19 (Int.toNat t69) (List.getD t12 (Int.toNat (List.getD t19 (Int.toNat t69) (0 : Int))) (0 : Int))), t68, (w64 (t69 + (1 : Int))), ()), ())))))) else (some (.inr ((t19, ()), ())))
abbrev impl_Space_lowWay_O1 : Out := .or .ret impl_Space_lowWay_J3 (.one (.ex 0) impl_Space_lowWay_J4)
noncomputable def impl_Space_lowWay_B1 : impl_Space_lowWay_J2.P → Option (impl_Space_lowWay_J2.P ⊕ impl_Space_lowWay_O1.P)
  | ((t1, t2, t3, t4, t26, t27, t28, ()), ()) => bif (decide (t28 < t27)) then (guardB (inb t28 (List.length t26)) (match impl_below (t1, (List.getD t26 (Int.toNat t28) (0 : Int)), ()) () with | some ((r, ()), ()) => (match impl_InducedSpace (t4, r, ()) () with | some ((r2, r3, ()), ()) => (match slices_BinarySearch_int_int (r, t2, ()) () with | some ((r4, r5, ()), ()) => (match slices_BinarySearch_int_int (r, t3, ()) () with | some ((r6, r7, ()), ()) => (bif (!r5) then (some (.inl ((t1, t2, t3, t4, t26, t27, (w64 (t28 + (1 : Int))), ()), ()))) else (bif (!r7) then (some (.inl ((t1, t2, t3, t4, t26, t27, (w64 (t28 + (1 : Int))), ()), ()))) else (match impl_Space_firstWay ((r2.1, r2.2), r4, r6, ()) () with | some ((r8, r9, ()), ()) => (bif r9 then (match loopO impl_Space_lowWay_B0 ((r, r8, (List.length r8 : Int), (0 : Int), ()), ()) with | some ((t19, ()), ()) => some (.inr (.inl ((t19, true, ()), ()))) | none => none) else (some (.inl ((t1, t2, t3, t4, t26, t27, (w64 (t28 + (1 : Int))), ()), ())))) | none => none))) | none => none) | none => none) | none => none) | none => none)) else (some (.inr (.inr ((), ()))))
noncomputable def impl_Space_lowWay : argP impl_Space_lowWay_a → obP (extObs 0 impl_Space_lowWay_o) → Option impl_Space_lowWay_E.P
  | (t0, t1, t2, t3, ()), () => match slices_Sorted_int () (t1, ()) with | some ((r, ()), (o, ())) => (match slices_Compact_int_int (r, ()) () with | some ((r2, ()), ()) => (match loopO impl_Space_lowWay_B1 ((t1, t2, t3, t0, r2, (List.length r2 : Int), (0 : Int), ()), ()) with | some (.inl ((t8, t9, ()), ())) => some ((t8, t9, ()), ()) | some (.inr ((), ())) => some ((([] : (List Int)), false, ()), ()) | none => none) | none => none) | none => none
noncomputable def impl_Space_lowWay_x : Cx := ⟨tab, impl_Space_firstWay_e, fun f n => bif Nat.beq f 119 && Nat.beq n 0 then 2 else 0, fun _ => false, [(24, 0), (24, 1), (24, 2), (24, 3), (26, 0), (26, 1), (26, 2), (26, 3), (34, 0), (34, 1), (34, 2), (34, 3), (12, 0), (44, 0), (44, 1), (44, 2), (44, 3), (50, 0), (50, 1), (50, 2), (50, 3)], [(4, 0), (13, 0)]⟩
noncomputable def c111 : Code := bodyOf Try.f111
noncomputable def impl_Space_lowWay_A : Ann := .seq .nil (.seq (.seq .nil (.loop impl_Space_lowWay_J2 impl_Space_lowWay_O1 impl_Space_lowWay_B1 (.seq .nil (.seq .nil (.seq (.seq .nil (.seq .nil (.seq .nil (.seq .nil (.seq .nil (.seq .nil (.seq .nil (.seq .nil (.seq (.seq (.seq .nil (.loop impl_Space_lowWay_J0 impl_Space_lowWay_O0 impl_Space_lowWay_B0 .nil)) .nil) .nil))))))))) .nil))))) .nil)
theorem impl_Space_lowWay_r0 (p : impl_Space_lowWay_J2.P) : run impl_Space_lowWay_x (subc [1, 0, 1, 0, 0] c111) (.seq .nil (.seq .nil (.seq (.seq .nil (.seq .nil (.seq .nil (.seq .nil (.seq .nil (.seq .nil (.seq .nil (.seq .nil (.seq (.seq (.seq .nil (.loop impl_Space_lowWay_J0 impl_Space_lowWay_O0 impl_Space_lowWay_B0 .nil)) .nil) .nil))))))))) .nil))) (impl_Space_lowWay_J2.S p) (leaf impl_Space_lowWay_J2 impl_Space_lowWay_O1) = impl_Space_lowWay_B1 p := by kernel_rfl
theorem impl_Space_lowWay_r1 (p : impl_Space_lowWay_J0.P) : run impl_Space_lowWay_x (subc [1, 0, 1, 0, 0, 1, 1, 0, 0, 1, 1, 1, 1, 1, 1, 1, 1, 0, 0, 1, 0, 0] c111) .nil (impl_Space_lowWay_J0.S p) (leaf impl_Space_lowWay_J0 impl_Space_lowWay_O0) = impl_Space_lowWay_B0 p := by kernel_rfl
noncomputable def impl_Space_lowWay_D : Ve.Fn := ⟨111, impl_Space_lowWay_a, impl_Space_lowWay_o, impl_Space_lowWay_E, impl_Space_lowWay⟩
theorem impl_Space_lowWay_w : Walk Try.prog impl_Space_lowWay_x impl_Space_lowWay_D Try.f111 c111 84 impl_Space_lowWay_A :=
  ⟨⟨Try.func111, by kernel_rfl, by kernel_rfl, by kernel_rfl, by decide, by kernel_rfl, Nat.le_of_ble_eq_true (by kernel_rfl)⟩, by kernel_rfl, by kernel_rfl, by kernel_rfl, kcast (by kernel_rfl) (⟨impl_Space_lowWay_r0, impl_Space_lowWay_r1, trivial⟩ : (∀ p, run impl_Space_lowWay_x (subc [1, 0, 1, 0, 0] c111) (.seq .nil (.seq .nil (.seq (.seq .nil (.seq .nil (.seq .nil (.seq .nil (.seq .nil (.seq .nil (.seq .nil (.seq .nil (.seq (.seq (.seq .nil (.loop impl_Space_lowWay_J0 impl_Space_lowWay_O0 impl_Space_lowWay_B0 .nil)) .nil) .nil))))))))) .nil))) (impl_Space_lowWay_J2.S p) (leaf impl_Space_lowWay_J2 impl_Space_lowWay_O1) = impl_Space_lowWay_B1 p) ∧ (∀ p, run impl_Space_lowWay_x (subc [1, 0, 1, 0, 0, 1, 1, 0, 0, 1, 1, 1, 1, 1, 1, 1, 1, 0, 0, 1, 0, 0] c111) .nil (impl_Space_lowWay_J0.S p) (leaf impl_Space_lowWay_J0 impl_Space_lowWay_O0) = impl_Space_lowWay_B0 p) ∧ True), by kernel_rfl, fun x y => by kernel_rfl⟩
theorem impl_Space_lowWay_s : impl_Space_lowWay_D.Says Try.prog := impl_Space_lowWay_w.says follows tabOk impl_Space_firstWay_e_ok
noncomputable def impl_Space_lowWay_e : Env := more impl_Space_firstWay_e impl_Space_lowWay_D
theorem impl_Space_lowWay_e_ok : EnvOk Try.prog impl_Space_lowWay_e := more_ok impl_Space_firstWay_e_ok impl_Space_lowWay_s
/-! loop.example/g01128/impl.LowWay -/
abbrev impl_LowWay_E : Ve.End := ⟨[⟨8, (.own .shr), (.list I), none⟩, ⟨9, .shr, .bool, none⟩], []⟩
abbrev impl_LowWay_a : List ASh := [.val (.prod (.list (.list I)) (.list (.prod I I))), .val (.list I), .val I, .val I]
abbrev impl_LowWay_o : List OSh := []
noncomputable def impl_LowWay : argP impl_LowWay_a → obP (extObs 0 impl_LowWay_o) → Option impl_LowWay_E.P
  | (x, heights, i, j, ()), () => match impl_isHigh (x, heights, ()) () with | some ((r, ()), ()) => (bif (!r) then (some ((([] : (List Int)), false, ()), ())) else (match impl_Space_isPlace (x, i, ()) () with | some ((r2, ()), ()) => (bif (!r2) then (some ((([] : (List Int)), false, ()), ())) else (match impl_Space_isPlace (x, j, ()) () with | some ((r3, ()), ()) => (bif (!r3) then (some ((([] : (List Int)), false, ()), ())) else (match impl_Space_lowWay (x, heights, i, j, ()) () with | some ((r4, r5, ()), ()) => some ((r4, r5, ()), ()) | none => none)) | none => none)) | none => none)) | none => none
noncomputable def impl_LowWay_x : Cx := ⟨tab, impl_Space_lowWay_e, fun _ _ => 0, fun _ => false, [(12, 0), (12, 1), (12, 2), (12, 3), (17, 0), (17, 1), (17, 2), (17, 3), (23, 0), (23, 1), (23, 2), (23, 3)], [(4, 0)]⟩
noncomputable def c51 : Code := bodyOf Try.f51
noncomputable def impl_LowWay_A : Ann := .nil
noncomputable def impl_LowWay_D : Ve.Fn := ⟨51, impl_LowWay_a, impl_LowWay_o, impl_LowWay_E, impl_LowWay⟩
theorem impl_LowWay_w : Walk Try.prog impl_LowWay_x impl_LowWay_D Try.f51 c51 33 impl_LowWay_A :=
  ⟨⟨Try.func51, by kernel_rfl, by kernel_rfl, by kernel_rfl, by decide, by kernel_rfl, Nat.le_of_ble_eq_true (by kernel_rfl)⟩, by kernel_rfl, by kernel_rfl, by kernel_rfl, kcast (by kernel_rfl) trivial, by kernel_rfl, fun x y => by kernel_rfl⟩
theorem impl_LowWay_s : impl_LowWay_D.Says Try.prog := impl_LowWay_w.says follows tabOk impl_Space_lowWay_e_ok
noncomputable def impl_LowWay_e : Env := more impl_Space_lowWay_e impl_LowWay_D
theorem impl_LowWay_e_ok : EnvOk Try.prog impl_LowWay_e := more_ok impl_Space_lowWay_e_ok impl_LowWay_s
/-! loop.example/g01128/impl.pair -/
abbrev impl_pair_E : Ve.End := ⟨[⟨4, .shr, (.prod I I), some 71⟩], []⟩
abbrev impl_pair_a : List ASh := [.val I, .val I]
abbrev impl_pair_o : List OSh := []
noncomputable def impl_pair : argP impl_pair_a → obP (extObs 0 impl_pair_o) → Option impl_pair_E.P
  | (a, b, ()), () => some ((((bif decide (b < a) then b else a), (bif decide (a < b) then b else a)), ()), ())
noncomputable def impl_pair_x : Cx := ⟨tab, impl_LowWay_e, fun _ _ => 0, fun _ => false, [], []⟩
noncomputable def c136 : Code := bodyOf Try.f136
noncomputable def impl_pair_A : Ann := .nil
noncomputable def impl_pair_D : Ve.Fn := ⟨136, impl_pair_a, impl_pair_o, impl_pair_E, impl_pair⟩
theorem impl_pair_w : Walk Try.prog impl_pair_x impl_pair_D Try.f136 c136 12 impl_pair_A :=
  ⟨⟨Try.func136, by kernel_rfl, by kernel_rfl, by kernel_rfl, by decide, by kernel_rfl, Nat.le_of_ble_eq_true (by kernel_rfl)⟩, by kernel_rfl, by kernel_rfl, by kernel_rfl, kcast (by kernel_rfl) trivial, by kernel_rfl, fun x y => by kernel_rfl⟩
theorem impl_pair_s : impl_pair_D.Says Try.prog := impl_pair_w.says follows tabOk impl_LowWay_e_ok
noncomputable def impl_pair_e : Env := more impl_LowWay_e impl_pair_D
theorem impl_pair_e_ok : EnvOk Try.prog impl_pair_e := more_ok impl_LowWay_e_ok impl_pair_s
/-! slices.BinarySearchFunc[[][2]int,[2]int,[2]int] -/
abbrev slices_BinarySearchFunc_2_int_2_int_2_int_vvf_impl_comparePairs_J0 : Tpl := ⟨[(0, .val (.list (.prod I I))), (2, .fn ⟨137, []⟩), (4, .cst (.prod I I)), (8, .val I), (9, .val I), (10, .val I)], [], []⟩
abbrev slices_BinarySearchFunc_2_int_2_int_2_int_vvf_impl_comparePairs_J1 : Tpl := ⟨[(0, .val (.list (.prod I I))), (2, .fn ⟨137, []⟩), (4, .cst (.prod I I)), (8, .val I), (9, .val I)], [], []⟩
abbrev slices_BinarySearchFunc_2_int_2_int_2_int_vvf_impl_comparePairs_E : Ve.End := ⟨[⟨6, .shr, I, none⟩, ⟨7, .shr, .bool, none⟩], []⟩
abbrev slices_BinarySearchFunc_2_int_2_int_2_int_vvf_impl_comparePairs_a : List ASh := [.val (.list (.prod I I)), .val (.prod I I), .fn 137 []]
abbrev slices_BinarySearchFunc_2_int_2_int_2_int_vvf_impl_comparePairs_o : List OSh := []
abbrev slices_BinarySearchFunc_2_int_2_int_2_int_vvf_impl_comparePairs_O0 : Out := .one (.ex 0) slices_BinarySearchFunc_2_int_2_int_2_int_vvf_impl_comparePairs_J1
noncomputable def slices_BinarySearchFunc_2_int_2_int_2_int_vvf_impl_comparePairs_B0 : slices_BinarySearchFunc_2_int_2_int_2_int_vvf_impl_comparePairs_J0.P → Option (slices_BinarySearchFunc_2_int_2_int_2_int_vvf_impl_comparePairs_J0.P ⊕ slices_BinarySearchFunc_2_int_2_int_2_int_vvf_impl_comparePairs_O0.P)
  | ((x, target, n, i, j, ()), ()) => bif (decide (i < j)) then (guardB (inb (w64 (Int.fdiv (IntKind.wrap .u64 (w64 (i + j))) (2 ^ (min 1 64)))) (List.length x)) (match impl_comparePairs ((List.getD x (Int.toNat (w64 (Int.fdiv (IntKind.wrap .u64 (w64 (i + j))) (2 ^ (min 1 64))))) ((0 : Int), (0 : Int))), target, ()) () with | some ((r, ()), ()) => (bif (decide (r < (0 : Int))) then (some (.inl ((x, target, n, (w64 ((w64 (Int.fdiv (IntKind.wrap .u64 (w64 (i + j))) (2 ^ (min 1 64)))) + (1 : Int))), j, ()), ()))) else (some (.inl ((x, target, n, i, (w64 (Int.fdiv (IntKind.wrap .u64 (w64 (i + j))) (2 ^ (min 1 64)))), ()), ())))) | none => none)) else (some (.inr ((x, target, n, i, ()), ())))
noncomputable def slices_BinarySearchFunc_2_int_2_int_2_int_vvf_impl_comparePairs : argP slices_BinarySearchFunc_2_int_2_int_2_int_vvf_impl_comparePairs_a → obP (extObs 0 slices_BinarySearchFunc_2_int_2_int_2_int_vvf_impl_comparePairs_o) → Option slices_BinarySearchFunc_2_int_2_int_2_int_vvf_impl_comparePairs_E.P
  | (x, target, ()), () => match loopO slices_BinarySearchFunc_2_int_2_int_2_int_vvf_impl_comparePairs_B0 ((x, target, (List.length x : Int), (0 : Int), (List.length x : Int), ()), ()) with | some ((x2, target2, n, i, ()), ()) => (bif (decide (i < n)) then (guardB (inb i (List.length x2)) (match impl_comparePairs ((List.getD x2 (Int.toNat i) ((0 : Int), (0 : Int))), target2, ()) () with | some ((r, ()), ()) => some ((i, (r == (0 : Int)), ()), ()) | none => none)) else (some ((i, false, ()), ()))) | none => none
noncomputable def slices_BinarySearchFunc_2_int_2_int_2_int_vvf_impl_comparePairs_x : Cx := ⟨tab, impl_pair_e, fun _ _ => 0, fun _ => false, [(30, 0), (30, 1), (30, 2), (30, 3), (46, 0), (46, 1), (46, 2), (46, 3)], [(4, 0)]⟩
noncomputable def c135 : Code := bodyOf Try.f135
noncomputable def slices_BinarySearchFunc_2_int_2_int_2_int_vvf_impl_comparePairs_A : Ann := .seq .nil (.seq .nil (.seq .nil (.seq (.loop slices_BinarySearchFunc_2_int_2_int_2_int_vvf_impl_comparePairs_J0 slices_BinarySearchFunc_2_int_2_int_2_int_vvf_impl_comparePairs_O0 slices_BinarySearchFunc_2_int_2_int_2_int_vvf_impl_comparePairs_B0 (.seq .nil (.seq .nil (.seq (.draw [(0, .flo), (1, .flo), (2, .flo), (3, .flo), (4, .flo), (5, .flo), (6, .sole), (7, .flo)]) .nil)))) (.seq (.draw [(0, .flo), (1, .flo), (2, .flo), (3, .flo), (4, .flo), (5, .flo), (6, .flo), (7, .flo), (8, .flo), (9, .flo), (10, .flo), (11, .sole), (12, .flo), (13, .flo), (14, .flo), (15, .flo)]) .nil))))
theorem slices_BinarySearchFunc_2_int_2_int_2_int_vvf_impl_comparePairs_r0 (p : slices_BinarySearchFunc_2_int_2_int_2_int_vvf_impl_comparePairs_J0.P) : run slices_BinarySearchFunc_2_int_2_int_2_int_vvf_impl_comparePairs_x (subc [1, 1, 1, 0, 0, 0] c135) (.seq .nil (.seq .nil (.seq (.draw [(0, .flo), (1, .flo), (2, .flo), (3, .flo), (4, .flo), (5, .flo), (6, .sole), (7, .flo)]) .nil))) (slices_BinarySearchFunc_2_int_2_int_2_int_vvf_impl_comparePairs_J0.S p) (leaf slices_BinarySearchFunc_2_int_2_int_2_int_vvf_impl_comparePairs_J0 slices_BinarySearchFunc_2_int_2_int_2_int_vvf_impl_comparePairs_O0) = slices_BinarySearchFunc_2_int_2_int_2_int_vvf_impl_comparePairs_B0 p := by kernel_rfl
noncomputable def slices_BinarySearchFunc_2_int_2_int_2_int_vvf_impl_comparePairs_D : Ve.Fn := ⟨135, slices_BinarySearchFunc_2_int_2_int_2_int_vvf_impl_comparePairs_a, slices_BinarySearchFunc_2_int_2_int_2_int_vvf_impl_comparePairs_o, slices_BinarySearchFunc_2_int_2_int_2_int_vvf_impl_comparePairs_E, slices_BinarySearchFunc_2_int_2_int_2_int_vvf_impl_comparePairs⟩
theorem slices_BinarySearchFunc_2_int_2_int_2_int_vvf_impl_comparePairs_w : Walk Try.prog slices_BinarySearchFunc_2_int_2_int_2_int_vvf_impl_comparePairs_x slices_BinarySearchFunc_2_int_2_int_2_int_vvf_impl_comparePairs_D Try.f135 c135 49 slices_BinarySearchFunc_2_int_2_int_2_int_vvf_impl_comparePairs_A :=
  ⟨⟨Try.func135, by kernel_rfl, by kernel_rfl, by kernel_rfl, by decide, by kernel_rfl, Nat.le_of_ble_eq_true (by kernel_rfl)⟩, by kernel_rfl, by kernel_rfl, by kernel_rfl, kcast (by kernel_rfl) (⟨slices_BinarySearchFunc_2_int_2_int_2_int_vvf_impl_comparePairs_r0, trivial⟩ : (∀ p, run slices_BinarySearchFunc_2_int_2_int_2_int_vvf_impl_comparePairs_x (subc [1, 1, 1, 0, 0, 0] c135) (.seq .nil (.seq .nil (.seq (.draw [(0, .flo), (1, .flo), (2, .flo), (3, .flo), (4, .flo), (5, .flo), (6, .sole), (7, .flo)]) .nil))) (slices_BinarySearchFunc_2_int_2_int_2_int_vvf_impl_comparePairs_J0.S p) (leaf slices_BinarySearchFunc_2_int_2_int_2_int_vvf_impl_comparePairs_J0 slices_BinarySearchFunc_2_int_2_int_2_int_vvf_impl_comparePairs_O0) = slices_BinarySearchFunc_2_int_2_int_2_int_vvf_impl_comparePairs_B0 p) ∧ True), by kernel_rfl, fun x y => by kernel_rfl⟩
theorem slices_BinarySearchFunc_2_int_2_int_2_int_vvf_impl_comparePairs_s : slices_BinarySearchFunc_2_int_2_int_2_int_vvf_impl_comparePairs_D.Says Try.prog := slices_BinarySearchFunc_2_int_2_int_2_int_vvf_impl_comparePairs_w.says follows tabOk impl_pair_e_ok
noncomputable def slices_BinarySearchFunc_2_int_2_int_2_int_vvf_impl_comparePairs_e : Env := more impl_pair_e slices_BinarySearchFunc_2_int_2_int_2_int_vvf_impl_comparePairs_D
theorem slices_BinarySearchFunc_2_int_2_int_2_int_vvf_impl_comparePairs_e_ok : EnvOk Try.prog slices_BinarySearchFunc_2_int_2_int_2_int_vvf_impl_comparePairs_e := more_ok impl_pair_e_ok slices_BinarySearchFunc_2_int_2_int_2_int_vvf_impl_comparePairs_s
/-! (loop.example/g01128/impl.Space).isStep -/
abbrev impl_Space_isStep_E : Ve.End := ⟨[⟨6, .shr, .bool, none⟩], []⟩
abbrev impl_Space_isStep_a : List ASh := [.val (.prod (.list (.list I)) (.list (.prod I I))), .val I, .val I]
abbrev impl_Space_isStep_o : List OSh := []
noncomputable def impl_Space_isStep : argP impl_Space_isStep_a → obP (extObs 0 impl_Space_isStep_o) → Option impl_Space_isStep_E.P
  | (x, i, j, ()), () => match impl_pair (i, j, ()) () with | some ((r, ()), ()) => (match slices_BinarySearchFunc_2_int_2_int_2_int_vvf_impl_comparePairs (x.2, r, ()) () with | some ((r2, r3, ()), ()) => some ((r3, ()), ()) | none => none) | none => none
noncomputable def impl_Space_isStep_x : Cx := ⟨tab, slices_BinarySearchFunc_2_int_2_int_2_int_vvf_impl_comparePairs_e, fun _ _ => 0, fun _ => false, [(14, 0), (14, 1), (14, 2), (14, 3), (15, 0), (15, 1), (15, 2), (15, 3)], [(3, 0)]⟩
noncomputable def c182 : Code := bodyOf Try.f182
noncomputable def impl_Space_isStep_A : Ann := .seq .nil (.seq (.draw [(0, .flo), (1, .flo), (2, .flo), (3, .flo), (4, .sole), (5, .sole), (6, .flo), (7, .flo), (8, .flo), (9, .flo), (10, .flo)]) .nil)
noncomputable def impl_Space_isStep_D : Ve.Fn := ⟨182, impl_Space_isStep_a, impl_Space_isStep_o, impl_Space_isStep_E, impl_Space_isStep⟩
theorem impl_Space_isStep_w : Walk Try.prog impl_Space_isStep_x impl_Space_isStep_D Try.f182 c182 19 impl_Space_isStep_A :=
  ⟨⟨Try.func182, by kernel_rfl, by kernel_rfl, by kernel_rfl, by decide, by kernel_rfl, Nat.le_of_ble_eq_true (by kernel_rfl)⟩, by kernel_rfl, by kernel_rfl, by kernel_rfl, kcast (by kernel_rfl) trivial, by kernel_rfl, fun x y => by kernel_rfl⟩
theorem impl_Space_isStep_s : impl_Space_isStep_D.Says Try.prog := impl_Space_isStep_w.says follows tabOk slices_BinarySearchFunc_2_int_2_int_2_int_vvf_impl_comparePairs_e_ok
noncomputable def impl_Space_isStep_e : Env := more slices_BinarySearchFunc_2_int_2_int_2_int_vvf_impl_comparePairs_e impl_Space_isStep_D
theorem impl_Space_isStep_e_ok : EnvOk Try.prog impl_Space_isStep_e := more_ok slices_BinarySearchFunc_2_int_2_int_2_int_vvf_impl_comparePairs_e_ok impl_Space_isStep_s
/-! loop.example/g01128/impl.IsWay -/
abbrev impl_IsWay_J0 : Tpl := ⟨[(1, .val (.list I)), (2, .cst (.prod (.list (.list I)) (.list (.prod I I)))), (11, .val (.list I)), (12, .val I), (13, .val I)], [], []⟩
abbrev impl_IsWay_J1 : Tpl := ⟨[(4, .val .bool), (5, .val .bool)], [], []⟩
abbrev impl_IsWay_J2 : Tpl := ⟨[(1, .val (.list I))], [], []⟩
abbrev impl_IsWay_E : Ve.End := ⟨[⟨4, .shr, .bool, none⟩, ⟨5, .shr, .bool, none⟩], []⟩
abbrev impl_IsWay_a : List ASh := [.val (.prod (.list (.list I)) (.list (.prod I I))), .val (.list I)]
abbrev impl_IsWay_o : List OSh := []
abbrev impl_IsWay_O0 : Out := .or .ret impl_IsWay_J1 (.one (.ex 0) impl_IsWay_J2)
noncomputable def impl_IsWay_B0 : impl_IsWay_J0.P → Option (impl_IsWay_J0.P ⊕ impl_IsWay_O0.P)
  | ((list, x, t11, t12, t13, ()), ()) => bif (decide (t13 < t12)) then (guardB (inb t13 (List.length t11)) (match impl_Space_isPlace (x, (List.getD t11 (Int.toNat t13) (0 : Int)), ()) () with | some ((r, ()), ()) => (bif (!r) then (some (.inr (.inl ((false, true, ()), ())))) else (bif (decide ((0 : Int) < t13)) then (guardB (inb (w64 (t13 - (1 : Int))) (List.length list)) (match impl_Space_isStep (x, (List.getD list (Int.toNat (w64 (t13 - (1 : Int)))) (0 : Int)), (List.getD t11 (Int.toNat t13) (0 : Int)), ()) () with | some ((r2, ()), ()) => (bif (!r2) then (some (.inr (.inl ((false, true, ()), ())))) else (some (.inl ((list, x, t11, t12, (w64 (t13 + (1 : Int))), ()), ())))) | none => none)) else (some (.inl ((list, x, t11, t12, (w64 (t13 + (1 : Int))), ()), ()))))) | none => none)) else (some (.inr (.inr ((list, ()), ()))))
noncomputable def impl_IsWay : argP impl_IsWay_a → obP (extObs 0 impl_IsWay_o) → Option impl_IsWay_E.P
  | (x, list, ()), () => match impl_IsSpace (x, ()) () with | some ((r, ()), ()) => (bif (!r) then (some ((false, false, ()), ())) else (match loopO impl_IsWay_B0 ((list, x, list, (List.length list : Int), (0 : Int), ()), ()) with | some (.inl ((t4, t5, ()), ())) => some ((t4, t5, ()), ()) | some (.inr ((list2, ()), ())) => some (((decide ((0 : Int) < (List.length list2 : Int))), true, ()), ()) | none => none)) | none => none
noncomputable def impl_IsWay_x : Cx := ⟨tab, impl_Space_isStep_e, fun _ _ => 0, fun _ => false, [(9, 0), (9, 1), (9, 2), (9, 3), (20, 0), (20, 1), (20, 2), (20, 3), (33, 0), (33, 1), (33, 2), (33, 3)], [(2, 0)]⟩
noncomputable def c172 : Code := bodyOf Try.f172
noncomputable def impl_IsWay_A : Ann := .seq .nil (.seq .nil (.seq (.seq .nil (.loop impl_IsWay_J0 impl_IsWay_O0 impl_IsWay_B0 (.seq .nil (.seq .nil (.seq (.seq .nil (.seq (.draw [(0, .flo), (1, .flo), (2, .sole), (3, .flo), (4, .flo), (5, .flo), (6, .flo), (7, .flo), (9, .flo), (10, .flo), (11, .flo), (12, .flo), (14, .flo), (8, .qui), (13, .qui), (15, .sole), (16, .flo), (17, .flo), (18, .flo)]) .nil)) .nil))))) .nil))
theorem impl_IsWay_r0 (p : impl_IsWay_J0.P) : run impl_IsWay_x (subc [1, 1, 0, 1, 0, 0] c172) (.seq .nil (.seq .nil (.seq (.seq .nil (.seq (.draw [(0, .flo), (1, .flo), (2, .sole), (3, .flo), (4, .flo), (5, .flo), (6, .flo), (7, .flo), (9, .flo), (10, .flo), (11, .flo), (12, .flo), (14, .flo), (8, .qui), (13, .qui), (15, .sole), (16, .flo), (17, .flo), (18, .flo)]) .nil)) .nil))) (impl_IsWay_J0.S p) (leaf impl_IsWay_J0 impl_IsWay_O0) = impl_IsWay_B0 p := by kernel_rfl
noncomputable def impl_IsWay_D : Ve.Fn := ⟨172, impl_IsWay_a, impl_IsWay_o, impl_IsWay_E, impl_IsWay⟩
theorem impl_IsWay_w : Walk Try.prog impl_IsWay_x impl_IsWay_D Try.f172 c172 41 impl_IsWay_A :=
  ⟨⟨Try.func172, by kernel_rfl, by kernel_rfl, by kernel_rfl, by decide, by kernel_rfl, Nat.le_of_ble_eq_true (by kernel_rfl)⟩, by kernel_rfl, by kernel_rfl, by kernel_rfl, kcast (by kernel_rfl) (⟨impl_IsWay_r0, trivial⟩ : (∀ p, run impl_IsWay_x (subc [1, 1, 0, 1, 0, 0] c172) (.seq .nil (.seq .nil (.seq (.seq .nil (.seq (.draw [(0, .flo), (1, .flo), (2, .sole), (3, .flo), (4, .flo), (5, .flo), (6, .flo), (7, .flo), (9, .flo), (10, .flo), (11, .flo), (12, .flo), (14, .flo), (8, .qui), (13, .qui), (15, .sole), (16, .flo), (17, .flo), (18, .flo)]) .nil)) .nil))) (impl_IsWay_J0.S p) (leaf impl_IsWay_J0 impl_IsWay_O0) = impl_IsWay_B0 p) ∧ True), by kernel_rfl, fun x y => by kernel_rfl⟩
theorem impl_IsWay_s : impl_IsWay_D.Says Try.prog := impl_IsWay_w.says follows tabOk impl_Space_isStep_e_ok
noncomputable def impl_IsWay_e : Env := more impl_Space_isStep_e impl_IsWay_D
theorem impl_IsWay_e_ok : EnvOk Try.prog impl_IsWay_e := more_ok impl_Space_isStep_e_ok impl_IsWay_s
/-! loop.example/g01128/impl.isWay -/
abbrev impl_isWay_E : Ve.End := ⟨[⟨4, .shr, .bool, none⟩], []⟩
abbrev impl_isWay_a : List ASh := [.val (.prod (.list (.list I)) (.list (.prod I I))), .val (.list I)]
abbrev impl_isWay_o : List OSh := []
noncomputable def impl_isWay : argP impl_isWay_a → obP (extObs 0 impl_isWay_o) → Option impl_isWay_E.P
  | (x, list, ()), () => match impl_IsWay (x, list, ()) () with | some ((r, r2, ()), ()) => some ((r, ()), ()) | none => none
noncomputable def impl_isWay_x : Cx := ⟨tab, impl_IsWay_e, fun _ _ => 0, fun _ => false, [(10, 0), (10, 1), (10, 2), (10, 3)], [(2, 0)]⟩
noncomputable def c148 : Code := bodyOf Try.f148
noncomputable def impl_isWay_A : Ann := .nil
noncomputable def impl_isWay_D : Ve.Fn := ⟨148, impl_isWay_a, impl_isWay_o, impl_isWay_E, impl_isWay⟩
theorem impl_isWay_w : Walk Try.prog impl_isWay_x impl_isWay_D Try.f148 c148 14 impl_isWay_A :=
  ⟨⟨Try.func148, by kernel_rfl, by kernel_rfl, by kernel_rfl, by decide, by kernel_rfl, Nat.le_of_ble_eq_true (by kernel_rfl)⟩, by kernel_rfl, by kernel_rfl, by kernel_rfl, kcast (by kernel_rfl) trivial, by kernel_rfl, fun x y => by kernel_rfl⟩
theorem impl_isWay_s : impl_isWay_D.Says Try.prog := impl_isWay_w.says follows tabOk impl_IsWay_e_ok
noncomputable def impl_isWay_e : Env := more impl_IsWay_e impl_isWay_D
theorem impl_isWay_e_ok : EnvOk Try.prog impl_isWay_e := more_ok impl_IsWay_e_ok impl_isWay_s
/-! loop.example/g01128/impl.PeakOf -/
abbrev impl_PeakOf_J0 : Tpl := ⟨[(1, .val (.list I)), (8, .val I), (21, .val (.list I)), (22, .val I), (23, .val I)], [], []⟩
abbrev impl_PeakOf_J1 : Tpl := ⟨[(8, .val I)], [], []⟩
abbrev impl_PeakOf_E : Ve.End := ⟨[⟨6, .shr, I, none⟩, ⟨7, .shr, .bool, none⟩], []⟩
abbrev impl_PeakOf_a : List ASh := [.val (.prod (.list (.list I)) (.list (.prod I I))), .val (.list I), .val (.list I)]
abbrev impl_PeakOf_o : List OSh := []
abbrev impl_PeakOf_O0 : Out := .one (.ex 0) impl_PeakOf_J1
noncomputable def impl_PeakOf_B0 : impl_PeakOf_J0.P → Option (impl_PeakOf_J0.P ⊕ impl_PeakOf_O0.P)
  | ((heights, peak, t21, t22, t23, ()), ()) => bif (decide (t23 < t22)) then (guardB (inb t23 (List.length t21)) (guardB (inb (List.getD t21 (Int.toNat t23) (0 : Int)) (List.length heights)) (some (.inl ((heights, (bif decide (peak < (List.getD heights (Int.toNat (List.getD t21 (Int.toNat t23) (0 : Int))) (0 : Int))) then (List.getD heights (Int.toNat (List.getD t21 (Int.toNat t23) (0 : Int))) (0 : Int)) else peak), t21, t22, (w64 (t23 + (1 : Int))), ()), ()))))) else (some (.inr ((peak, ()), ())))
noncomputable def impl_PeakOf : argP impl_PeakOf_a → obP (extObs 0 impl_PeakOf_o) → Option impl_PeakOf_E.P
  | (x, heights, way, ()), () => match impl_isHigh (x, heights, ()) () with | some ((r, ()), ()) => (bif (!r) then (some (((0 : Int), false, ()), ())) else (match impl_isWay (x, way, ()) () with | some ((r2, ()), ()) => (bif (!r2) then (some (((0 : Int), false, ()), ())) else (match loopO impl_PeakOf_B0 ((heights, (0 : Int), way, (List.length way : Int), (0 : Int), ()), ()) with | some ((peak, ()), ()) => some ((peak, true, ()), ()) | none => none)) | none => none)) | none => none
noncomputable def impl_PeakOf_x : Cx := ⟨tab, impl_isWay_e, fun _ _ => 0, fun _ => false, [(13, 0), (13, 1), (13, 2), (13, 3), (18, 0), (18, 1), (18, 2), (18, 3)], [(3, 0)]⟩
noncomputable def c109 : Code := bodyOf Try.f109
noncomputable def impl_PeakOf_A : Ann := .seq .nil (.seq .nil (.seq .nil (.seq (.seq .nil (.loop impl_PeakOf_J0 impl_PeakOf_O0 impl_PeakOf_B0 .nil)) .nil)))
theorem impl_PeakOf_r0 (p : impl_PeakOf_J0.P) : run impl_PeakOf_x (subc [1, 1, 1, 0, 1, 0, 0] c109) .nil (impl_PeakOf_J0.S p) (leaf impl_PeakOf_J0 impl_PeakOf_O0) = impl_PeakOf_B0 p := by kernel_rfl
noncomputable def impl_PeakOf_D : Ve.Fn := ⟨109, impl_PeakOf_a, impl_PeakOf_o, impl_PeakOf_E, impl_PeakOf⟩
theorem impl_PeakOf_w : Walk Try.prog impl_PeakOf_x impl_PeakOf_D Try.f109 c109 35 impl_PeakOf_A :=
  ⟨⟨Try.func109, by kernel_rfl, by kernel_rfl, by kernel_rfl, by decide, by kernel_rfl, Nat.le_of_ble_eq_true (by kernel_rfl)⟩, by kernel_rfl, by kernel_rfl, by kernel_rfl, kcast (by kernel_rfl) (⟨impl_PeakOf_r0, trivial⟩ : (∀ p, run impl_PeakOf_x (subc [1, 1, 1, 0, 1, 0, 0] c109) .nil (impl_PeakOf_J0.S p) (leaf impl_PeakOf_J0 impl_PeakOf_O0) = impl_PeakOf_B0 p) ∧ True), by kernel_rfl, fun x y => by kernel_rfl⟩
theorem impl_PeakOf_s : impl_PeakOf_D.Says Try.prog := impl_PeakOf_w.says follows tabOk impl_isWay_e_ok
noncomputable def impl_PeakOf_e : Env := more impl_isWay_e impl_PeakOf_D
theorem impl_PeakOf_e_ok : EnvOk Try.prog impl_PeakOf_e := more_ok impl_isWay_e_ok impl_PeakOf_s
/-! loop.example/g01128/impl.LeastPeak -/
abbrev impl_LeastPeak_E : Ve.End := ⟨[⟨8, .shr, I, none⟩, ⟨9, .shr, .bool, none⟩], []⟩
abbrev impl_LeastPeak_a : List ASh := [.val (.prod (.list (.list I)) (.list (.prod I I))), .val (.list I), .val I, .val I]
abbrev impl_LeastPeak_o : List OSh := []
noncomputable def impl_LeastPeak : argP impl_LeastPeak_a → obP (extObs 0 impl_LeastPeak_o) → Option impl_LeastPeak_E.P
  | (x, heights, i, j, ()), () => match impl_LowWay (x, heights, i, j, ()) () with | some ((r, r2, ()), ()) => (bif (!r2) then (some (((0 : Int), false, ()), ())) else (match impl_PeakOf (x, heights, r, ()) () with | some ((r3, r4, ()), ()) => some ((r3, r4, ()), ()) | none => none)) | none => none
noncomputable def impl_LeastPeak_x : Cx := ⟨tab, impl_PeakOf_e, fun _ _ => 0, fun _ => false, [(17, 0), (17, 1), (17, 2), (17, 3), (10, 0), (25, 0), (25, 1), (25, 2), (25, 3)], [(4, 0)]⟩
noncomputable def c49 : Code := bodyOf Try.f49
noncomputable def impl_LeastPeak_A : Ann := .nil
noncomputable def impl_LeastPeak_D : Ve.Fn := ⟨49, impl_LeastPeak_a, impl_LeastPeak_o, impl_LeastPeak_E, impl_LeastPeak⟩
theorem impl_LeastPeak_w : Walk Try.prog impl_LeastPeak_x impl_LeastPeak_D Try.f49 c49 28 impl_LeastPeak_A :=
  ⟨⟨Try.func49, by kernel_rfl, by kernel_rfl, by kernel_rfl, by decide, by kernel_rfl, Nat.le_of_ble_eq_true (by kernel_rfl)⟩, by kernel_rfl, by kernel_rfl, by kernel_rfl, kcast (by kernel_rfl) trivial, by kernel_rfl, fun x y => by kernel_rfl⟩
theorem impl_LeastPeak_s : impl_LeastPeak_D.Says Try.prog := impl_LeastPeak_w.says follows tabOk impl_PeakOf_e_ok
noncomputable def impl_LeastPeak_e : Env := more impl_PeakOf_e impl_LeastPeak_D
theorem impl_LeastPeak_e_ok : EnvOk Try.prog impl_LeastPeak_e := more_ok impl_PeakOf_e_ok impl_LeastPeak_s
/-! loop.example/g01128/laws.eqIntS -/
abbrev laws_eqIntS_J0 : Tpl := ⟨[(0, .val (.list I)), (1, .val (.list I)), (5, .val I)], [], []⟩
abbrev laws_eqIntS_J1 : Tpl := ⟨[(4, .val .bool)], [], []⟩
abbrev laws_eqIntS_J2 : Tpl := ⟨[], [], []⟩
abbrev laws_eqIntS_E : Ve.End := ⟨[⟨4, .shr, .bool, none⟩], []⟩
abbrev laws_eqIntS_a : List ASh := [.val (.list I), .val (.list I)]
abbrev laws_eqIntS_o : List OSh := []
abbrev laws_eqIntS_O0 : Out := .or .ret laws_eqIntS_J1 (.one (.ex 0) laws_eqIntS_J2)
noncomputable def laws_eqIntS_B0 : laws_eqIntS_J0.P → Option (laws_eqIntS_J0.P ⊕ laws_eqIntS_O0.P)
  | ((a, b, i, ()), ()) => bif (decide (i < (List.length a : Int))) then (guardB (inb i (List.length a)) (guardB (inb i (List.length b)) (bif ((List.getD a (Int.toNat i) (0 : Int)) != (List.getD b (Int.toNat i) (0 : Int))) then (some (.inr (.inl ((false, ()), ())))) else (some (.inl ((a, b, (w64 (i + (1 : Int))), ()), ())))))) else (some (.inr (.inr ((), ()))))
noncomputable def laws_eqIntS : argP laws_eqIntS_a → obP (extObs 0 laws_eqIntS_o) → Option laws_eqIntS_E.P
  | (a, b, ()), () => bif ((List.length a : Int) != (List.length b : Int)) then (some ((false, ()), ())) else (match loopO laws_eqIntS_B0 ((a, b, (0 : Int), ()), ()) with | some (.inl ((t4, ()), ())) => some ((t4, ()), ()) | some (.inr ((), ())) => some ((true, ()), ()) | none => none)
noncomputable def laws_eqIntS_x : Cx := ⟨tab, impl_LeastPeak_e, fun _ _ => 0, fun _ => false, [], []⟩
noncomputable def c21 : Code := bodyOf Try.f21
noncomputable def laws_eqIntS_A : Ann := .seq .nil (.seq .nil (.seq (.seq .nil (.loop laws_eqIntS_J0 laws_eqIntS_O0 laws_eqIntS_B0 (.seq .nil (.seq (.seq (.draw [(0, .flo), (1, .flo), (2, .flo), (3, .flo), (4, .flo), (5, .flo), (6, .flo), (7, .flo), (8, .flo)]) .nil) .nil)))) .nil))
theorem laws_eqIntS_r0 (p : laws_eqIntS_J0.P) : run laws_eqIntS_x (subc [1, 1, 0, 1, 0, 0] c21) (.seq .nil (.seq (.seq (.draw [(0, .flo), (1, .flo), (2, .flo), (3, .flo), (4, .flo), (5, .flo), (6, .flo), (7, .flo), (8, .flo)]) .nil) .nil)) (laws_eqIntS_J0.S p) (leaf laws_eqIntS_J0 laws_eqIntS_O0) = laws_eqIntS_B0 p := by kernel_rfl
noncomputable def laws_eqIntS_D : Ve.Fn := ⟨21, laws_eqIntS_a, laws_eqIntS_o, laws_eqIntS_E, laws_eqIntS⟩
theorem laws_eqIntS_w : Walk Try.prog laws_eqIntS_x laws_eqIntS_D Try.f21 c21 26 laws_eqIntS_A :=
  ⟨⟨Try.func21, by kernel_rfl, by kernel_rfl, by kernel_rfl, by decide, by kernel_rfl, Nat.le_of_ble_eq_true (by kernel_rfl)⟩, by kernel_rfl, by kernel_rfl, by kernel_rfl, kcast (by kernel_rfl) (⟨laws_eqIntS_r0, trivial⟩ : (∀ p, run laws_eqIntS_x (subc [1, 1, 0, 1, 0, 0] c21) (.seq .nil (.seq (.seq (.draw [(0, .flo), (1, .flo), (2, .flo), (3, .flo), (4, .flo), (5, .flo), (6, .flo), (7, .flo), (8, .flo)]) .nil) .nil)) (laws_eqIntS_J0.S p) (leaf laws_eqIntS_J0 laws_eqIntS_O0) = laws_eqIntS_B0 p) ∧ True), by kernel_rfl, fun x y => by kernel_rfl⟩
theorem laws_eqIntS_s : laws_eqIntS_D.Says Try.prog := laws_eqIntS_w.says follows tabOk impl_LeastPeak_e_ok
noncomputable def laws_eqIntS_e : Env := more impl_LeastPeak_e laws_eqIntS_D
theorem laws_eqIntS_e_ok : EnvOk Try.prog laws_eqIntS_e := more_ok impl_LeastPeak_e_ok laws_eqIntS_s
/-! loop.example/g01128/laws.eqIntSS -/
abbrev laws_eqIntSS_J0 : Tpl := ⟨[(0, .val (.list (.list I))), (1, .val (.list (.list I))), (5, .val I)], [], []⟩
abbrev laws_eqIntSS_J1 : Tpl := ⟨[(4, .val .bool)], [], []⟩
abbrev laws_eqIntSS_J2 : Tpl := ⟨[], [], []⟩
abbrev laws_eqIntSS_E : Ve.End := ⟨[⟨4, .shr, .bool, none⟩], []⟩
abbrev laws_eqIntSS_a : List ASh := [.val (.list (.list I)), .val (.list (.list I))]
abbrev laws_eqIntSS_o : List OSh := []
abbrev laws_eqIntSS_O0 : Out := .or .ret laws_eqIntSS_J1 (.one (.ex 0) laws_eqIntSS_J2)
noncomputable def laws_eqIntSS_B0 : laws_eqIntSS_J0.P → Option (laws_eqIntSS_J0.P ⊕ laws_eqIntSS_O0.P)
  | ((a, b, i, ()), ()) => bif (decide (i < (List.length a : Int))) then (guardB (inb i (List.length a)) (guardB (inb i (List.length b)) (match laws_eqIntS ((List.getD a (Int.toNat i) ([] : (List Int))), (List.getD b (Int.toNat i) ([] : (List Int))), ()) () with | some ((r, ()), ()) => (bif (!r) then (some (.inr (.inl ((false, ()), ())))) else (some (.inl ((a, b, (w64 (i + (1 : Int))), ()), ())))) | none => none))) else (some (.inr (.inr ((), ()))))
noncomputable def laws_eqIntSS : argP laws_eqIntSS_a → obP (extObs 0 laws_eqIntSS_o) → Option laws_eqIntSS_E.P
  | (a, b, ()), () => bif ((List.length a : Int) != (List.length b : Int)) then (some ((false, ()), ())) else (match loopO laws_eqIntSS_B0 ((a, b, (0 : Int), ()), ()) with | some (.inl ((t4, ()), ())) => some ((t4, ()), ()) | some (.inr ((), ())) => some ((true, ()), ()) | none => none)
noncomputable def laws_eqIntSS_x : Cx := ⟨tab, laws_eqIntS_e, fun _ _ => 0, fun _ => false, [(25, 0), (25, 1), (25, 2), (25, 3)], []⟩
noncomputable def c26 : Code := bodyOf Try.f26
noncomputable def laws_eqIntSS_A : Ann := .seq .nil (.seq .nil (.seq (.seq .nil (.loop laws_eqIntSS_J0 laws_eqIntSS_O0 laws_eqIntSS_B0 (.seq .nil (.seq (.seq (.draw [(0, .flo), (1, .flo), (2, .flo), (3, .flo), (4, .flo), (5, .flo), (6, .flo), (7, .flo), (8, .sole), (9, .flo)]) .nil) .nil)))) .nil))
theorem laws_eqIntSS_r0 (p : laws_eqIntSS_J0.P) : run laws_eqIntSS_x (subc [1, 1, 0, 1, 0, 0] c26) (.seq .nil (.seq (.seq (.draw [(0, .flo), (1, .flo), (2, .flo), (3, .flo), (4, .flo), (5, .flo), (6, .flo), (7, .flo), (8, .sole), (9, .flo)]) .nil) .nil)) (laws_eqIntSS_J0.S p) (leaf laws_eqIntSS_J0 laws_eqIntSS_O0) = laws_eqIntSS_B0 p := by kernel_rfl
noncomputable def laws_eqIntSS_D : Ve.Fn := ⟨26, laws_eqIntSS_a, laws_eqIntSS_o, laws_eqIntSS_E, laws_eqIntSS⟩
theorem laws_eqIntSS_w : Walk Try.prog laws_eqIntSS_x laws_eqIntSS_D Try.f26 c26 27 laws_eqIntSS_A :=
  ⟨⟨Try.func26, by kernel_rfl, by kernel_rfl, by kernel_rfl, by decide, by kernel_rfl, Nat.le_of_ble_eq_true (by kernel_rfl)⟩, by kernel_rfl, by kernel_rfl, by kernel_rfl, kcast (by kernel_rfl) (⟨laws_eqIntSS_r0, trivial⟩ : (∀ p, run laws_eqIntSS_x (subc [1, 1, 0, 1, 0, 0] c26) (.seq .nil (.seq (.seq (.draw [(0, .flo), (1, .flo), (2, .flo), (3, .flo), (4, .flo), (5, .flo), (6, .flo), (7, .flo), (8, .sole), (9, .flo)]) .nil) .nil)) (laws_eqIntSS_J0.S p) (leaf laws_eqIntSS_J0 laws_eqIntSS_O0) = laws_eqIntSS_B0 p) ∧ True), by kernel_rfl, fun x y => by kernel_rfl⟩
theorem laws_eqIntSS_s : laws_eqIntSS_D.Says Try.prog := laws_eqIntSS_w.says follows tabOk laws_eqIntS_e_ok
noncomputable def laws_eqIntSS_e : Env := more laws_eqIntS_e laws_eqIntSS_D
theorem laws_eqIntSS_e_ok : EnvOk Try.prog laws_eqIntSS_e := more_ok laws_eqIntS_e_ok laws_eqIntSS_s
/-! loop.example/g01128/laws.eqIntA2 -/
abbrev laws_eqIntA2_J0 : Tpl := ⟨[(2, .cst (.prod I I)), (3, .cst (.prod I I)), (5, .val I)], [], []⟩
abbrev laws_eqIntA2_J1 : Tpl := ⟨[(4, .val .bool)], [], []⟩
abbrev laws_eqIntA2_J2 : Tpl := ⟨[], [], []⟩
abbrev laws_eqIntA2_E : Ve.End := ⟨[⟨4, .shr, .bool, none⟩], []⟩
abbrev laws_eqIntA2_a : List ASh := [.val (.prod I I), .val (.prod I I)]
abbrev laws_eqIntA2_o : List OSh := []
abbrev laws_eqIntA2_O0 : Out := .or .ret laws_eqIntA2_J1 (.one (.ex 0) laws_eqIntA2_J2)
noncomputable def laws_eqIntA2_B0 : laws_eqIntA2_J0.P → Option (laws_eqIntA2_J0.P ⊕ laws_eqIntA2_O0.P)
  | ((a, b, i, ()), ()) => bif (decide (i < (2 : Int))) then (guardB (decide (0 ≤ i) && decide (i < 2)) (guardB (decide (0 ≤ i) && decide (i < 2)) (bif ((bif Nat.beq (Int.toNat i) 0 then a.1 else a.2) != (bif Nat.beq (Int.toNat i) 0 then b.1 else b.2)) then (some (.inr (.inl ((false, ()), ())))) else (some (.inl ((a, b, (w64 (i + (1 : Int))), ()), ())))))) else (some (.inr (.inr ((), ()))))
noncomputable def laws_eqIntA2 : argP laws_eqIntA2_a → obP (extObs 0 laws_eqIntA2_o) → Option laws_eqIntA2_E.P
  | (a, b, ()), () => match loopO laws_eqIntA2_B0 ((a, b, (0 : Int), ()), ()) with | some (.inl ((t4, ()), ())) => some ((t4, ()), ()) | some (.inr ((), ())) => some ((true, ()), ()) | none => none
noncomputable def laws_eqIntA2_x : Cx := ⟨tab, laws_eqIntSS_e, fun _ _ => 0, fun _ => false, [], [(2, 0), (3, 0)]⟩
noncomputable def c124 : Code := bodyOf Try.f124
noncomputable def laws_eqIntA2_A : Ann := .seq .nil (.seq (.seq .nil (.loop laws_eqIntA2_J0 laws_eqIntA2_O0 laws_eqIntA2_B0 (.seq .nil (.seq (.seq (.draw [(0, .flo), (1, .flo), (2, .flo), (3, .flo), (4, .flo), (5, .flo), (6, .flo)]) .nil) .nil)))) .nil)
theorem laws_eqIntA2_r0 (p : laws_eqIntA2_J0.P) : run laws_eqIntA2_x (subc [1, 0, 1, 0, 0] c124) (.seq .nil (.seq (.seq (.draw [(0, .flo), (1, .flo), (2, .flo), (3, .flo), (4, .flo), (5, .flo), (6, .flo)]) .nil) .nil)) (laws_eqIntA2_J0.S p) (leaf laws_eqIntA2_J0 laws_eqIntA2_O0) = laws_eqIntA2_B0 p := by kernel_rfl
noncomputable def laws_eqIntA2_D : Ve.Fn := ⟨124, laws_eqIntA2_a, laws_eqIntA2_o, laws_eqIntA2_E, laws_eqIntA2⟩
theorem laws_eqIntA2_w : Walk Try.prog laws_eqIntA2_x laws_eqIntA2_D Try.f124 c124 17 laws_eqIntA2_A :=
  ⟨⟨Try.func124, by kernel_rfl, by kernel_rfl, by kernel_rfl, by decide, by kernel_rfl, Nat.le_of_ble_eq_true (by kernel_rfl)⟩, by kernel_rfl, by kernel_rfl, by kernel_rfl, kcast (by kernel_rfl) (⟨laws_eqIntA2_r0, trivial⟩ : (∀ p, run laws_eqIntA2_x (subc [1, 0, 1, 0, 0] c124) (.seq .nil (.seq (.seq (.draw [(0, .flo), (1, .flo), (2, .flo), (3, .flo), (4, .flo), (5, .flo), (6, .flo)]) .nil) .nil)) (laws_eqIntA2_J0.S p) (leaf laws_eqIntA2_J0 laws_eqIntA2_O0) = laws_eqIntA2_B0 p) ∧ True), by kernel_rfl, fun x y => by kernel_rfl⟩
theorem laws_eqIntA2_s : laws_eqIntA2_D.Says Try.prog := laws_eqIntA2_w.says follows tabOk laws_eqIntSS_e_ok
noncomputable def laws_eqIntA2_e : Env := more laws_eqIntSS_e laws_eqIntA2_D
theorem laws_eqIntA2_e_ok : EnvOk Try.prog laws_eqIntA2_e := more_ok laws_eqIntSS_e_ok laws_eqIntA2_s
/-! loop.example/g01128/laws.eqIntA2S -/
abbrev laws_eqIntA2S_J0 : Tpl := ⟨[(0, .val (.list (.prod I I))), (1, .val (.list (.prod I I))), (5, .val I)], [], []⟩
abbrev laws_eqIntA2S_J1 : Tpl := ⟨[(4, .val .bool)], [], []⟩
abbrev laws_eqIntA2S_J2 : Tpl := ⟨[], [], []⟩
abbrev laws_eqIntA2S_E : Ve.End := ⟨[⟨4, .shr, .bool, none⟩], []⟩
abbrev laws_eqIntA2S_a : List ASh := [.val (.list (.prod I I)), .val (.list (.prod I I))]
abbrev laws_eqIntA2S_o : List OSh := []
abbrev laws_eqIntA2S_O0 : Out := .or .ret laws_eqIntA2S_J1 (.one (.ex 0) laws_eqIntA2S_J2)
noncomputable def laws_eqIntA2S_B0 : laws_eqIntA2S_J0.P → Option (laws_eqIntA2S_J0.P ⊕ laws_eqIntA2S_O0.P)
  | ((a, b, i, ()), ()) => bif (decide (i < (List.length a : Int))) then (guardB (inb i (List.length a)) (guardB (inb i (List.length b)) (match laws_eqIntA2 ((List.getD a (Int.toNat i) ((0 : Int), (0 : Int))), (List.getD b (Int.toNat i) ((0 : Int), (0 : Int))), ()) () with | some ((r, ()), ()) => (bif (!r) then (some (.inr (.inl ((false, ()), ())))) else (some (.inl ((a, b, (w64 (i + (1 : Int))), ()), ())))) | none => none))) else (some (.inr (.inr ((), ()))))
noncomputable def laws_eqIntA2S : argP laws_eqIntA2S_a → obP (extObs 0 laws_eqIntA2S_o) → Option laws_eqIntA2S_E.P
  | (a, b, ()), () => bif ((List.length a : Int) != (List.length b : Int)) then (some ((false, ()), ())) else (match loopO laws_eqIntA2S_B0 ((a, b, (0 : Int), ()), ()) with | some (.inl ((t4, ()), ())) => some ((t4, ()), ()) | some (.inr ((), ())) => some ((true, ()), ()) | none => none)
noncomputable def laws_eqIntA2S_x : Cx := ⟨tab, laws_eqIntA2_e, fun _ _ => 0, fun _ => false, [(25, 0), (25, 1), (25, 2), (25, 3)], []⟩
noncomputable def c58 : Code := bodyOf Try.f58
noncomputable def laws_eqIntA2S_A : Ann := .seq .nil (.seq .nil (.seq (.seq .nil (.loop laws_eqIntA2S_J0 laws_eqIntA2S_O0 laws_eqIntA2S_B0 (.seq .nil (.seq (.seq (.draw [(0, .flo), (1, .flo), (2, .flo), (3, .flo), (4, .flo), (5, .flo), (6, .flo), (7, .flo), (8, .sole), (9, .flo)]) .nil) .nil)))) .nil))
theorem laws_eqIntA2S_r0 (p : laws_eqIntA2S_J0.P) : run laws_eqIntA2S_x (subc [1, 1, 0, 1, 0, 0] c58) (.seq .nil (.seq (.seq (.draw [(0, .flo), (1, .flo), (2, .flo), (3, .flo), (4, .flo), (5, .flo), (6, .flo), (7, .flo), (8, .sole), (9, .flo)]) .nil) .nil)) (laws_eqIntA2S_J0.S p) (leaf laws_eqIntA2S_J0 laws_eqIntA2S_O0) = laws_eqIntA2S_B0 p := by kernel_rfl
noncomputable def laws_eqIntA2S_D : Ve.Fn := ⟨58, laws_eqIntA2S_a, laws_eqIntA2S_o, laws_eqIntA2S_E, laws_eqIntA2S⟩
theorem laws_eqIntA2S_w : Walk Try.prog laws_eqIntA2S_x laws_eqIntA2S_D Try.f58 c58 27 laws_eqIntA2S_A :=
  ⟨⟨Try.func58, by kernel_rfl, by kernel_rfl, by kernel_rfl, by decide, by kernel_rfl, Nat.le_of_ble_eq_true (by kernel_rfl)⟩, by kernel_rfl, by kernel_rfl, by kernel_rfl, kcast (by kernel_rfl) (⟨laws_eqIntA2S_r0, trivial⟩ : (∀ p, run laws_eqIntA2S_x (subc [1, 1, 0, 1, 0, 0] c58) (.seq .nil (.seq (.seq (.draw [(0, .flo), (1, .flo), (2, .flo), (3, .flo), (4, .flo), (5, .flo), (6, .flo), (7, .flo), (8, .sole), (9, .flo)]) .nil) .nil)) (laws_eqIntA2S_J0.S p) (leaf laws_eqIntA2S_J0 laws_eqIntA2S_O0) = laws_eqIntA2S_B0 p) ∧ True), by kernel_rfl, fun x y => by kernel_rfl⟩
theorem laws_eqIntA2S_s : laws_eqIntA2S_D.Says Try.prog := laws_eqIntA2S_w.says follows tabOk laws_eqIntA2_e_ok
noncomputable def laws_eqIntA2S_e : Env := more laws_eqIntA2_e laws_eqIntA2S_D
theorem laws_eqIntA2S_e_ok : EnvOk Try.prog laws_eqIntA2S_e := more_ok laws_eqIntA2_e_ok laws_eqIntA2S_s
/-! loop.example/g01128/laws.eqSpace -/
abbrev laws_eqSpace_E : Ve.End := ⟨[⟨4, .shr, .bool, none⟩], []⟩
abbrev laws_eqSpace_a : List ASh := [.val (.prod (.list (.list I)) (.list (.prod I I))), .val (.prod (.list (.list I)) (.list (.prod I I)))]
abbrev laws_eqSpace_o : List OSh := []
noncomputable def laws_eqSpace : argP laws_eqSpace_a → obP (extObs 0 laws_eqSpace_o) → Option laws_eqSpace_E.P
  | (a, b, ()), () => match laws_eqIntSS (a.1, b.1, ()) () with | some ((r, ()), ()) => (bif (!r) then (some ((false, ()), ())) else (match laws_eqIntA2S (a.2, b.2, ()) () with | some ((r2, ()), ()) => (bif (!r2) then (some ((false, ()), ())) else (some ((true, ()), ()))) | none => none)) | none => none
noncomputable def laws_eqSpace_x : Cx := ⟨tab, laws_eqIntA2S_e, fun _ _ => 0, fun _ => false, [(9, 0), (9, 1), (9, 2), (9, 3), (15, 0), (15, 1), (15, 2), (15, 3)], [(2, 0), (3, 0)]⟩
noncomputable def c20 : Code := bodyOf Try.f20
noncomputable def laws_eqSpace_A : Ann := .nil
noncomputable def laws_eqSpace_D : Ve.Fn := ⟨20, laws_eqSpace_a, laws_eqSpace_o, laws_eqSpace_E, laws_eqSpace⟩
theorem laws_eqSpace_w : Walk Try.prog laws_eqSpace_x laws_eqSpace_D Try.f20 c20 17 laws_eqSpace_A :=
  ⟨⟨Try.func20, by kernel_rfl, by kernel_rfl, by kernel_rfl, by decide, by kernel_rfl, Nat.le_of_ble_eq_true (by kernel_rfl)⟩, by kernel_rfl, by kernel_rfl, by kernel_rfl, kcast (by kernel_rfl) trivial, by kernel_rfl, fun x y => by kernel_rfl⟩
theorem laws_eqSpace_s : laws_eqSpace_D.Says Try.prog := laws_eqSpace_w.says follows tabOk laws_eqIntA2S_e_ok
noncomputable def laws_eqSpace_e : Env := more laws_eqIntA2S_e laws_eqSpace_D
theorem laws_eqSpace_e_ok : EnvOk Try.prog laws_eqSpace_e := more_ok laws_eqIntA2S_e_ok laws_eqSpace_s
/-! loop.example/g01128/laws.FnExactLeastPeak -/
abbrev laws_FnExactLeastPeak_E : Ve.End := ⟨[⟨8, .shr, .bool, none⟩], []⟩
abbrev laws_FnExactLeastPeak_a : List ASh := [.val (.prod (.list (.list I)) (.list (.prod I I))), .val (.list I), .val I, .val I]
abbrev laws_FnExactLeastPeak_o : List OSh := []
noncomputable def laws_FnExactLeastPeak : argP laws_FnExactLeastPeak_a → obP (extObs 0 laws_FnExactLeastPeak_o) → Option laws_FnExactLeastPeak_E.P
  | (aX, aHeights, aI, aJ, ()), () => bif (decide ((1048576 : Int) < (List.length aHeights : Int))) then (some ((true, ()), ())) else (match laws_szSpace (aX, (1048576 : Int), ()) () with | some ((r, ()), ()) => (bif (decide (r < (0 : Int))) then (some ((true, ()), ())) else (match laws_toSpace (aX, ()) () with | some ((r2, ()), ()) => (match laws_toIntS (aHeights, ()) () with | some ((r3, ()), ()) => (match spec_LeastPeak ((r2.1, r2.2), r3, aI, aJ, ()) () with | some ((r4, r5, ()), ()) => (match laws_toSpace (aX, ()) () with | some ((r6, ()), ()) => (match laws_toIntS (aHeights, ()) () with | some ((r7, ()), ()) => (match impl_LeastPeak ((r6.1, r6.2), r7, aI, aJ, ()) () with | some ((r8, r9, ()), ()) => (bif (r8 != r4) then (some ((false, ()), ())) else (bif (!(r9 == r5)) then (some ((false, ()), ())) else (match laws_toSpace (aX, ()) () with | some ((r10, ()), ()) => (match laws_eqSpace ((r6.1, r6.2), (r10.1, r10.2), ()) () with | some ((r11, ()), ()) => (bif (!r11) then (some ((false, ()), ())) else (match laws_toIntS (aHeights, ()) () with | some ((r12, ()), ()) => (match laws_eqIntS (r7, r12, ()) () with | some ((r13, ()), ()) => (bif (!r13) then (some ((false, ()), ())) else (some ((true, ()), ()))) | none => none) | none => none)) | none => none) | none => none))) | none => none) | none => none) | none => none) | none => none) | none => none) | none => none)) | none => none)
noncomputable def laws_FnExactLeastPeak_x : Cx := ⟨tab, laws_eqSpace_e, fun _ _ => 0, fun _ => false, [(21, 0), (21, 1), (21, 2), (21, 3), (26, 0), (26, 1), (26, 2), (26, 3), (28, 0), (28, 1), (28, 2), (28, 3), (31, 0), (31, 1), (31, 2), (31, 3), (37, 0), (37, 1), (37, 2), (37, 3), (13, 0), (43, 0), (43, 1), (43, 2), (43, 3), (56, 0), (56, 1), (56, 2), (56, 3), (57, 0), (57, 1), (57, 2), (57, 3), (61, 0), (61, 1), (61, 2), (61, 3), (62, 0), (62, 1), (62, 2), (62, 3)], [(4, 0), (12, 0)]⟩
noncomputable def c13 : Code := bodyOf Try.f13
noncomputable def laws_FnExactLeastPeak_A : Ann := .seq .nil (.seq .nil (.seq .nil (.seq .nil (.seq .nil (.seq .nil (.seq .nil (.seq .nil (.seq .nil (.seq .nil (.seq (.seq (.draw [(0, .flo), (1, .flo), (2, .sole), (3, .sole), (4, .flo)]) .nil) .nil))))))))))
noncomputable def laws_FnExactLeastPeak_D : Ve.Fn := ⟨13, laws_FnExactLeastPeak_a, laws_FnExactLeastPeak_o, laws_FnExactLeastPeak_E, laws_FnExactLeastPeak⟩
theorem laws_FnExactLeastPeak_w : Walk Try.prog laws_FnExactLeastPeak_x laws_FnExactLeastPeak_D Try.f13 c13 64 laws_FnExactLeastPeak_A :=
  ⟨⟨Try.func13, by kernel_rfl, by kernel_rfl, by kernel_rfl, by decide, by kernel_rfl, Nat.le_of_ble_eq_true (by kernel_rfl)⟩, by kernel_rfl, by kernel_rfl, by kernel_rfl, kcast (by kernel_rfl) trivial, by kernel_rfl, fun x y => by kernel_rfl⟩
theorem laws_FnExactLeastPeak_s : laws_FnExactLeastPeak_D.Says Try.prog := laws_FnExactLeastPeak_w.says follows tabOk laws_eqSpace_e_ok
noncomputable def laws_FnExactLeastPeak_e : Env := more laws_eqSpace_e laws_FnExactLeastPeak_D
theorem laws_FnExactLeastPeak_e_ok : EnvOk Try.prog laws_FnExactLeastPeak_e := more_ok laws_eqSpace_e_ok laws_FnExactLeastPeak_s
end Go.Proofs.Ytolabkhcmcfnpaa.V
