/-
  What the functions that the law reaches compute: typed pure functions, checked against the code.
-/
import Derived.Test.YtckbihhaameffaaGreatProg
import Derived.Test.YtckbihhaameffaaGreatE4
import Derived.Test.YtckbihhaameffaaGreatS
namespace Go.Proofs.YtckbihhaameffaaGreat.V
open Go.Ve Go.Proofs
set_option linter.unusedVariables false
set_option linter.unusedSimpArgs false
set_option maxRecDepth 100000
def tab : Tab := [(3, .data ⟨I, 0, 8, false⟩), (4, .data ⟨.bool, 0, 1, false⟩), (9, .data ⟨.str, 0, 16, false⟩), (22, .data ⟨(.list (.prod I I)), 0, 16, false⟩), (24, .data ⟨(.prod I (.list (.prod I I))), 2, 32, false⟩), (25, .data ⟨(.list I), 0, 8, false⟩), (27, .data ⟨(.prod (.prod I (.list (.prod I I))) (.prod I (.prod (.list I) (.prod (.list I) (.prod (.list I) I))))), 6, 120, false⟩), (29, .data ⟨(.prod I (.list (.prod I I))), 2, 32, false⟩), (31, .data ⟨(.prod (.prod I (.list (.prod I I))) (.prod I (.prod (.list I) (.prod (.list I) (.prod (.list I) I))))), 6, 120, false⟩), (33, .data ⟨(.prod .str (.prod .str I)), 3, 40, false⟩), (35, .data ⟨(.prod (.prod (.prod I (.list (.prod I I))) (.prod I (.prod (.list I) (.prod (.list I) (.prod (.list I) I))))) (.prod .str (.prod .str I))), 2, 160, false⟩), (99, .data ⟨(.int .u64), 0, 8, false⟩), (102, .fn), (133, .data ⟨(.prod I I), 2, 16, true⟩), (165, .fn), (221, .fn)]
theorem follows : Tryz.prog.follows .mixedOrders = true := by kernel_rfl
theorem ti3 : TiOk Tryz.prog tab 3 ⟨I, 0, 8, false⟩ := ti_int (by kernel_rfl) Tryz.underlying3
theorem ti4 : TiOk Tryz.prog tab 4 ⟨.bool, 0, 1, false⟩ := ti_bool (by kernel_rfl) Tryz.underlying4
theorem ti9 : TiOk Tryz.prog tab 9 ⟨.str, 0, 16, false⟩ := ti_str (by kernel_rfl) Tryz.underlying9
theorem ti22 : TiOk Tryz.prog tab 22 ⟨(.list (.prod I I)), 0, 16, false⟩ := ti_list (ie := ⟨(.prod I I), 2, 16, true⟩) (by kernel_rfl) Tryz.underlying22 (by kernel_rfl) rfl (by kernel_rfl) (by kernel_rfl)
theorem ti24 : TiOk Tryz.prog tab 24 ⟨(.prod I (.list (.prod I I))), 2, 32, false⟩ := ti_struct (by kernel_rfl) Tryz.underlying24 (by kernel_rfl) (by kernel_rfl) (by kernel_rfl) (by kernel_rfl)
theorem ti25 : TiOk Tryz.prog tab 25 ⟨(.list I), 0, 8, false⟩ := ti_list (ie := ⟨I, 0, 8, false⟩) (by kernel_rfl) Tryz.underlying25 (by kernel_rfl) rfl (by kernel_rfl) (by kernel_rfl)
theorem ti27 : TiOk Tryz.prog tab 27 ⟨(.prod (.prod I (.list (.prod I I))) (.prod I (.prod (.list I) (.prod (.list I) (.prod (.list I) I))))), 6, 120, false⟩ := ti_struct (by kernel_rfl) Tryz.underlying27 (by kernel_rfl) (by kernel_rfl) (by kernel_rfl) (by kernel_rfl)
theorem ti29 : TiOk Tryz.prog tab 29 ⟨(.prod I (.list (.prod I I))), 2, 32, false⟩ := ti_struct (by kernel_rfl) Tryz.underlying29 (by kernel_rfl) (by kernel_rfl) (by kernel_rfl) (by kernel_rfl)
theorem ti31 : TiOk Tryz.prog tab 31 ⟨(.prod (.prod I (.list (.prod I I))) (.prod I (.prod (.list I) (.prod (.list I) (.prod (.list I) I))))), 6, 120, false⟩ := ti_struct (by kernel_rfl) Tryz.underlying31 (by kernel_rfl) (by kernel_rfl) (by kernel_rfl) (by kernel_rfl)
theorem ti33 : TiOk Tryz.prog tab 33 ⟨(.prod .str (.prod .str I)), 3, 40, false⟩ := ti_struct (by kernel_rfl) Tryz.underlying33 (by kernel_rfl) (by kernel_rfl) (by kernel_rfl) (by kernel_rfl)
theorem ti35 : TiOk Tryz.prog tab 35 ⟨(.prod (.prod (.prod I (.list (.prod I I))) (.prod I (.prod (.list I) (.prod (.list I) (.prod (.list I) I))))) (.prod .str (.prod .str I))), 2, 160, false⟩ := ti_struct (by kernel_rfl) Tryz.underlying35 (by kernel_rfl) (by kernel_rfl) (by kernel_rfl) (by kernel_rfl)
theorem ti99 : TiOk Tryz.prog tab 99 ⟨(.int .u64), 0, 8, false⟩ := ti_int (by kernel_rfl) Tryz.underlying99
theorem ti102 : FnOk Tryz.prog 102 := ti_fn (by kernel_rfl) (Tryz.underlying102)
theorem ti133 : TiOk Tryz.prog tab 133 ⟨(.prod I I), 2, 16, true⟩ := ti_arr (ie := ⟨I, 0, 8, false⟩) (by kernel_rfl) Tryz.underlying133 (by kernel_rfl) rfl (by kernel_rfl) (by kernel_rfl)
theorem ti165 : FnOk Tryz.prog 165 := ti_fn (by kernel_rfl) (Tryz.underlying165)
theorem ti221 : FnOk Tryz.prog 221 := ti_fn (by kernel_rfl) (Tryz.underlying221)
theorem tabOk : TabOk' Tryz.prog tab := tabOk_of ⟨ti3, ti4, ti9, ti22, ti24, ti25, ti27, ti29, ti31, ti33, ti35, ti99, ti102, ti133, ti165, ti221, trivial⟩
noncomputable def M241_e : Env := moreMk noEnv 241 259 25
theorem M241_e_ok : EnvOk Tryz.prog M241_e := moreMk_ok noEnv_ok (mk_ok Tryz.func241 (by kernel_rfl) rfl (by kernel_rfl) (by kernel_rfl))
/-! loop.example/g01128/laws.szIntA2S -/
abbrev laws_szIntA2S_E : Ve.End := ⟨[⟨4, .shr, I, none⟩], []⟩
abbrev laws_szIntA2S_a : List ASh := [.val (.list (.prod I I)), .val I]
abbrev laws_szIntA2S_o : List OSh := []
noncomputable def laws_szIntA2S : argP laws_szIntA2S_a → obP (extObs 0 laws_szIntA2S_o) → Option laws_szIntA2S_E.P
  | (a, left, ()), () => bif (decide ((w64 (left - (List.length a : Int))) < (0 : Int))) then (some (((-1 : Int), ()), ())) else (some (((w64 (left - (List.length a : Int))), ()), ()))
noncomputable def laws_szIntA2S_x : Cx := ⟨tab, M241_e, fun _ _ => 0, fun _ => false, [], []⟩
noncomputable def c104 : Code := bodyOf Tryz.f104
noncomputable def laws_szIntA2S_A : Ann := .nil
noncomputable def laws_szIntA2S_D : Ve.Fn := ⟨104, laws_szIntA2S_a, laws_szIntA2S_o, laws_szIntA2S_E, laws_szIntA2S⟩
theorem laws_szIntA2S_w : Walk Tryz.prog laws_szIntA2S_x laws_szIntA2S_D Tryz.f104 c104 12 laws_szIntA2S_A :=
  ⟨⟨Tryz.func104, by kernel_rfl, by kernel_rfl, by kernel_rfl, by decide, by kernel_rfl, Nat.le_of_ble_eq_true (by kernel_rfl)⟩, by kernel_rfl, by kernel_rfl, by kernel_rfl, kcast (by kernel_rfl) trivial, by kernel_rfl, fun x y => by kernel_rfl⟩
theorem laws_szIntA2S_s : laws_szIntA2S_D.Says Tryz.prog := laws_szIntA2S_w.says follows tabOk M241_e_ok
noncomputable def laws_szIntA2S_e : Env := more M241_e laws_szIntA2S_D
theorem laws_szIntA2S_e_ok : EnvOk Tryz.prog laws_szIntA2S_e := more_ok M241_e_ok laws_szIntA2S_s
/-! loop.example/g01128/laws.szGraph -/
abbrev laws_szGraph_E : Ve.End := ⟨[⟨4, .shr, I, none⟩], []⟩
abbrev laws_szGraph_a : List ASh := [.val (.prod I (.list (.prod I I))), .val I]
abbrev laws_szGraph_o : List OSh := []
noncomputable def laws_szGraph : argP laws_szGraph_a → obP (extObs 0 laws_szGraph_o) → Option laws_szGraph_E.P
  | (a, left, ()), () => match laws_szIntA2S (a.2, left, ()) () with | some ((r, ()), ()) => (bif (decide (r < (0 : Int))) then (some (((-1 : Int), ()), ())) else (some ((r, ()), ()))) | none => none
noncomputable def laws_szGraph_x : Cx := ⟨tab, laws_szIntA2S_e, fun _ _ => 0, fun _ => false, [(8, 0), (8, 1), (8, 2), (8, 3)], [(2, 0)]⟩
noncomputable def c54 : Code := bodyOf Tryz.f54
noncomputable def laws_szGraph_A : Ann := .nil
noncomputable def laws_szGraph_D : Ve.Fn := ⟨54, laws_szGraph_a, laws_szGraph_o, laws_szGraph_E, laws_szGraph⟩
theorem laws_szGraph_w : Walk Tryz.prog laws_szGraph_x laws_szGraph_D Tryz.f54 c54 12 laws_szGraph_A :=
  ⟨⟨Tryz.func54, by kernel_rfl, by kernel_rfl, by kernel_rfl, by decide, by kernel_rfl, Nat.le_of_ble_eq_true (by kernel_rfl)⟩, by kernel_rfl, by kernel_rfl, by kernel_rfl, kcast (by kernel_rfl) trivial, by kernel_rfl, fun x y => by kernel_rfl⟩
theorem laws_szGraph_s : laws_szGraph_D.Says Tryz.prog := laws_szGraph_w.says follows tabOk laws_szIntA2S_e_ok
noncomputable def laws_szGraph_e : Env := more laws_szIntA2S_e laws_szGraph_D
theorem laws_szGraph_e_ok : EnvOk Tryz.prog laws_szGraph_e := more_ok laws_szIntA2S_e_ok laws_szGraph_s
/-! loop.example/g01128/laws.szIntS -/
abbrev laws_szIntS_E : Ve.End := ⟨[⟨4, .shr, I, none⟩], []⟩
abbrev laws_szIntS_a : List ASh := [.val (.list I), .val I]
abbrev laws_szIntS_o : List OSh := []
noncomputable def laws_szIntS : argP laws_szIntS_a → obP (extObs 0 laws_szIntS_o) → Option laws_szIntS_E.P
  | (a, left, ()), () => bif (decide ((w64 (left - (List.length a : Int))) < (0 : Int))) then (some (((-1 : Int), ()), ())) else (some (((w64 (left - (List.length a : Int))), ()), ()))
noncomputable def laws_szIntS_x : Cx := ⟨tab, laws_szGraph_e, fun _ _ => 0, fun _ => false, [], []⟩
noncomputable def c55 : Code := bodyOf Tryz.f55
noncomputable def laws_szIntS_A : Ann := .nil
noncomputable def laws_szIntS_D : Ve.Fn := ⟨55, laws_szIntS_a, laws_szIntS_o, laws_szIntS_E, laws_szIntS⟩
theorem laws_szIntS_w : Walk Tryz.prog laws_szIntS_x laws_szIntS_D Tryz.f55 c55 12 laws_szIntS_A :=
  ⟨⟨Tryz.func55, by kernel_rfl, by kernel_rfl, by kernel_rfl, by decide, by kernel_rfl, Nat.le_of_ble_eq_true (by kernel_rfl)⟩, by kernel_rfl, by kernel_rfl, by kernel_rfl, kcast (by kernel_rfl) trivial, by kernel_rfl, fun x y => by kernel_rfl⟩
theorem laws_szIntS_s : laws_szIntS_D.Says Tryz.prog := laws_szIntS_w.says follows tabOk laws_szGraph_e_ok
noncomputable def laws_szIntS_e : Env := more laws_szGraph_e laws_szIntS_D
theorem laws_szIntS_e_ok : EnvOk Tryz.prog laws_szIntS_e := more_ok laws_szGraph_e_ok laws_szIntS_s
/-! loop.example/g01128/laws.szStudio -/
abbrev laws_szStudio_E : Ve.End := ⟨[⟨4, .shr, I, none⟩], []⟩
abbrev laws_szStudio_a : List ASh := [.val (.prod (.prod I (.list (.prod I I))) (.prod I (.prod (.list I) (.prod (.list I) (.prod (.list I) I))))), .val I]
abbrev laws_szStudio_o : List OSh := []
noncomputable def laws_szStudio : argP laws_szStudio_a → obP (extObs 0 laws_szStudio_o) → Option laws_szStudio_E.P
  | (a, left, ()), () => match laws_szGraph (a.1, left, ()) () with | some ((r, ()), ()) => (bif (decide (r < (0 : Int))) then (some (((-1 : Int), ()), ())) else (match laws_szIntS (a.2.2.1, r, ()) () with | some ((r2, ()), ()) => (bif (decide (r2 < (0 : Int))) then (some (((-1 : Int), ()), ())) else (match laws_szIntS (a.2.2.2.1, r2, ()) () with | some ((r3, ()), ()) => (bif (decide (r3 < (0 : Int))) then (some (((-1 : Int), ()), ())) else (match laws_szIntS (a.2.2.2.2.1, r3, ()) () with | some ((r4, ()), ()) => (bif (decide (r4 < (0 : Int))) then (some (((-1 : Int), ()), ())) else (some ((r4, ()), ()))) | none => none)) | none => none)) | none => none)) | none => none
noncomputable def laws_szStudio_x : Cx := ⟨tab, laws_szIntS_e, fun _ _ => 0, fun _ => false, [(8, 0), (8, 1), (8, 2), (8, 3), (14, 0), (14, 1), (14, 2), (14, 3), (20, 0), (20, 1), (20, 2), (20, 3), (26, 0), (26, 1), (26, 2), (26, 3)], [(2, 0)]⟩
noncomputable def c10 : Code := bodyOf Tryz.f10
noncomputable def laws_szStudio_A : Ann := .nil
noncomputable def laws_szStudio_D : Ve.Fn := ⟨10, laws_szStudio_a, laws_szStudio_o, laws_szStudio_E, laws_szStudio⟩
theorem laws_szStudio_w : Walk Tryz.prog laws_szStudio_x laws_szStudio_D Tryz.f10 c10 30 laws_szStudio_A :=
  ⟨⟨Tryz.func10, by kernel_rfl, by kernel_rfl, by kernel_rfl, by decide, by kernel_rfl, Nat.le_of_ble_eq_true (by kernel_rfl)⟩, by kernel_rfl, by kernel_rfl, by kernel_rfl, kcast (by kernel_rfl) trivial, by kernel_rfl, fun x y => by kernel_rfl⟩
theorem laws_szStudio_s : laws_szStudio_D.Says Tryz.prog := laws_szStudio_w.says follows tabOk laws_szIntS_e_ok
noncomputable def laws_szStudio_e : Env := more laws_szIntS_e laws_szStudio_D
theorem laws_szStudio_e_ok : EnvOk Tryz.prog laws_szStudio_e := more_ok laws_szIntS_e_ok laws_szStudio_s
/-! loop.example/g01128/laws.toIntA2 -/
abbrev laws_toIntA2_J0 : Tpl := ⟨[(1, .cst (.prod I I)), (2, .ptr (2, 0)), (3, .ptr (3, 0)), (4, .val I)], [((2, 0), .box .shr (.prod I I)), ((3, 0), .box .shr (.prod I I))], []⟩
abbrev laws_toIntA2_J1 : Tpl := ⟨[(2, .ptr (2, 0)), (3, .ptr (3, 0))], [((2, 0), .box .shr (.prod I I)), ((3, 0), .box .shr (.prod I I))], []⟩
abbrev laws_toIntA2_E : Ve.End := ⟨[⟨2, .shr, (.prod I I), some 133⟩], []⟩
abbrev laws_toIntA2_a : List ASh := [.val (.prod I I)]
abbrev laws_toIntA2_o : List OSh := []
abbrev laws_toIntA2_O0 : Out := .one (.ex 0) laws_toIntA2_J1
noncomputable def laws_toIntA2_B0 : laws_toIntA2_J0.P → Option (laws_toIntA2_J0.P ⊕ laws_toIntA2_O0.P)
  | ((a, i, ()), (t2, out, ())) => bif (decide (i < (2 : Int))) then (guardB (decide (0 ≤ i) && decide (i < 2)) (guardB (decide (0 ≤ i) && decide (i < 2)) (some (.inl ((a, (w64 (i + (1 : Int))), ()), (t2, (bif Nat.beq (Int.toNat i) 0 then ((bif Nat.beq (Int.toNat i) 0 then a.1 else a.2), out.2) else (out.1, (bif Nat.beq (Int.toNat i) 0 then a.1 else a.2))), ())))))) else (some (.inr ((), (t2, out, ()))))
noncomputable def laws_toIntA2 : argP laws_toIntA2_a → obP (extObs 0 laws_toIntA2_o) → Option laws_toIntA2_E.P
  | (a, ()), () => match loopO laws_toIntA2_B0 ((a, (0 : Int), ()), (((0 : Int), (0 : Int)), ((0 : Int), (0 : Int)), ())) with | some ((), (t2, out, ())) => some ((out, ()), ()) | none => none
noncomputable def laws_toIntA2_x : Cx := ⟨tab, laws_szStudio_e, fun _ _ => 0, fun _ => false, [], [(1, 0)]⟩
noncomputable def c170 : Code := bodyOf Tryz.f170
noncomputable def laws_toIntA2_A : Ann := .seq .nil (.seq .nil (.seq (.seq .nil (.loop laws_toIntA2_J0 laws_toIntA2_O0 laws_toIntA2_B0 .nil)) .nil))
theorem laws_toIntA2_r0 (p : laws_toIntA2_J0.P) : run laws_toIntA2_x (subc [1, 1, 0, 1, 0, 0] c170) .nil (laws_toIntA2_J0.S p) (leaf laws_toIntA2_J0 laws_toIntA2_O0) = laws_toIntA2_B0 p := by kernel_rfl
noncomputable def laws_toIntA2_D : Ve.Fn := ⟨170, laws_toIntA2_a, laws_toIntA2_o, laws_toIntA2_E, laws_toIntA2⟩
theorem laws_toIntA2_w : Walk Tryz.prog laws_toIntA2_x laws_toIntA2_D Tryz.f170 c170 15 laws_toIntA2_A :=
  ⟨⟨Tryz.func170, by kernel_rfl, by kernel_rfl, by kernel_rfl, by decide, by kernel_rfl, Nat.le_of_ble_eq_true (by kernel_rfl)⟩, by kernel_rfl, by kernel_rfl, by kernel_rfl, kcast (by kernel_rfl) (⟨laws_toIntA2_r0, trivial⟩ : (∀ p, run laws_toIntA2_x (subc [1, 1, 0, 1, 0, 0] c170) .nil (laws_toIntA2_J0.S p) (leaf laws_toIntA2_J0 laws_toIntA2_O0) = laws_toIntA2_B0 p) ∧ True), by kernel_rfl, fun x y => by kernel_rfl⟩
theorem laws_toIntA2_s : laws_toIntA2_D.Says Tryz.prog := laws_toIntA2_w.says follows tabOk laws_szStudio_e_ok
noncomputable def laws_toIntA2_e : Env := more laws_szStudio_e laws_toIntA2_D
theorem laws_toIntA2_e_ok : EnvOk Tryz.prog laws_toIntA2_e := more_ok laws_szStudio_e_ok laws_toIntA2_s
/-! loop.example/g01128/laws.toIntA2S -/
abbrev laws_toIntA2S_J0 : Tpl := ⟨[(0, .val (.list (.prod I I))), (3, .own .shr (.prod I I)), (4, .val I)], [], []⟩
abbrev laws_toIntA2S_J1 : Tpl := ⟨[(3, .own .shr (.prod I I))], [], []⟩
abbrev laws_toIntA2S_E : Ve.End := ⟨[⟨2, (.own .shr), (.list (.prod I I)), none⟩], []⟩
abbrev laws_toIntA2S_a : List ASh := [.val (.list (.prod I I))]
abbrev laws_toIntA2S_o : List OSh := []
abbrev laws_toIntA2S_O0 : Out := .one (.ex 0) laws_toIntA2S_J1
noncomputable def laws_toIntA2S_B0 : laws_toIntA2S_J0.P → Option (laws_toIntA2S_J0.P ⊕ laws_toIntA2S_O0.P)
  | ((a, out, i, ()), ()) => bif (decide (i < (List.length a : Int))) then (guardB (inb i (List.length a)) (match laws_toIntA2 ((List.getD a (Int.toNat i) ((0 : Int), (0 : Int))), ()) () with | some ((r, ()), ()) => guardB (inb i (List.length out)) (some (.inl ((a, (List.set out (Int.toNat i) r), (w64 (i + (1 : Int))), ()), ()))) | none => none)) else (some (.inr ((out, ()), ())))
noncomputable def laws_toIntA2S : argP laws_toIntA2S_a → obP (extObs 0 laws_toIntA2S_o) → Option laws_toIntA2S_E.P
  | (a, ()), () => guardB (decide (0 ≤ (List.length a : Int)) && decide ((List.length a : Int) ≤ (List.length a : Int)) && decide ((List.length a : Int) * 16 ≤ 140737488355328)) (match loopO laws_toIntA2S_B0 ((a, (List.replicate (Int.toNat (List.length a : Int)) ((0 : Int), (0 : Int))), (0 : Int), ()), ()) with | some ((out, ()), ()) => some ((out, ()), ()) | none => none)
noncomputable def laws_toIntA2S_x : Cx := ⟨tab, laws_toIntA2_e, fun _ _ => 0, fun _ => false, [(20, 0), (20, 1), (20, 2), (20, 3)], []⟩
noncomputable def c109 : Code := bodyOf Tryz.f109
noncomputable def laws_toIntA2S_A : Ann := .seq .nil (.seq .nil (.seq (.seq .nil (.loop laws_toIntA2S_J0 laws_toIntA2S_O0 laws_toIntA2S_B0 .nil)) .nil))
theorem laws_toIntA2S_r0 (p : laws_toIntA2S_J0.P) : run laws_toIntA2S_x (subc [1, 1, 0, 1, 0, 0] c109) .nil (laws_toIntA2S_J0.S p) (leaf laws_toIntA2S_J0 laws_toIntA2S_O0) = laws_toIntA2S_B0 p := by kernel_rfl
noncomputable def laws_toIntA2S_D : Ve.Fn := ⟨109, laws_toIntA2S_a, laws_toIntA2S_o, laws_toIntA2S_E, laws_toIntA2S⟩
theorem laws_toIntA2S_w : Walk Tryz.prog laws_toIntA2S_x laws_toIntA2S_D Tryz.f109 c109 23 laws_toIntA2S_A :=
  ⟨⟨Tryz.func109, by kernel_rfl, by kernel_rfl, by kernel_rfl, by decide, by kernel_rfl, Nat.le_of_ble_eq_true (by kernel_rfl)⟩, by kernel_rfl, by kernel_rfl, by kernel_rfl, kcast (by kernel_rfl) (⟨laws_toIntA2S_r0, trivial⟩ : (∀ p, run laws_toIntA2S_x (subc [1, 1, 0, 1, 0, 0] c109) .nil (laws_toIntA2S_J0.S p) (leaf laws_toIntA2S_J0 laws_toIntA2S_O0) = laws_toIntA2S_B0 p) ∧ True), by kernel_rfl, fun x y => by kernel_rfl⟩
theorem laws_toIntA2S_s : laws_toIntA2S_D.Says Tryz.prog := laws_toIntA2S_w.says follows tabOk laws_toIntA2_e_ok
noncomputable def laws_toIntA2S_e : Env := more laws_toIntA2_e laws_toIntA2S_D
theorem laws_toIntA2S_e_ok : EnvOk Tryz.prog laws_toIntA2S_e := more_ok laws_toIntA2_e_ok laws_toIntA2S_s
/-! loop.example/g01128/laws.toGraph -/
abbrev laws_toGraph_E : Ve.End := ⟨[⟨2, (.prod .shr (.own .shr)), (.prod I (.list (.prod I I))), some 29⟩], []⟩
abbrev laws_toGraph_a : List ASh := [.val (.prod I (.list (.prod I I)))]
abbrev laws_toGraph_o : List OSh := []
noncomputable def laws_toGraph : argP laws_toGraph_a → obP (extObs 0 laws_toGraph_o) → Option laws_toGraph_E.P
  | (a, ()), () => match laws_toIntA2S (a.2, ()) () with | some ((r, ()), ()) => some (((a.1, r), ()), ()) | none => none
noncomputable def laws_toGraph_x : Cx := ⟨tab, laws_toIntA2S_e, fun _ _ => 0, fun _ => false, [], [(1, 0)]⟩
noncomputable def c58 : Code := bodyOf Tryz.f58
noncomputable def laws_toGraph_A : Ann := .nil
noncomputable def laws_toGraph_D : Ve.Fn := ⟨58, laws_toGraph_a, laws_toGraph_o, laws_toGraph_E, laws_toGraph⟩
theorem laws_toGraph_w : Walk Tryz.prog laws_toGraph_x laws_toGraph_D Tryz.f58 c58 12 laws_toGraph_A :=
  ⟨⟨Tryz.func58, by kernel_rfl, by kernel_rfl, by kernel_rfl, by decide, by kernel_rfl, Nat.le_of_ble_eq_true (by kernel_rfl)⟩, by kernel_rfl, by kernel_rfl, by kernel_rfl, kcast (by kernel_rfl) trivial, by kernel_rfl, fun x y => by kernel_rfl⟩
theorem laws_toGraph_s : laws_toGraph_D.Says Tryz.prog := laws_toGraph_w.says follows tabOk laws_toIntA2S_e_ok
noncomputable def laws_toGraph_e : Env := more laws_toIntA2S_e laws_toGraph_D
theorem laws_toGraph_e_ok : EnvOk Tryz.prog laws_toGraph_e := more_ok laws_toIntA2S_e_ok laws_toGraph_s
/-! loop.example/g01128/laws.toIntS -/
abbrev laws_toIntS_J0 : Tpl := ⟨[(0, .val (.list I)), (3, .own .shr I), (4, .val I)], [], []⟩
abbrev laws_toIntS_J1 : Tpl := ⟨[(3, .own .shr I)], [], []⟩
abbrev laws_toIntS_E : Ve.End := ⟨[⟨2, (.own .shr), (.list I), none⟩], []⟩
abbrev laws_toIntS_a : List ASh := [.val (.list I)]
abbrev laws_toIntS_o : List OSh := []
abbrev laws_toIntS_O0 : Out := .one (.ex 0) laws_toIntS_J1
noncomputable def laws_toIntS_B0 : laws_toIntS_J0.P → Option (laws_toIntS_J0.P ⊕ laws_toIntS_O0.P)
  | ((a, out, i, ()), ()) => bif (decide (i < (List.length a : Int))) then (guardB (inb i (List.length a)) (guardB (inb i (List.length out)) (some (.inl ((a, (List.set out (Int.toNat i) (List.getD a (Int.toNat i) (0 : Int))), (w64 (i + (1 : Int))), ()), ()))))) else (some (.inr ((out, ()), ())))
noncomputable def laws_toIntS : argP laws_toIntS_a → obP (extObs 0 laws_toIntS_o) → Option laws_toIntS_E.P
  | (a, ()), () => guardB (decide (0 ≤ (List.length a : Int)) && decide ((List.length a : Int) ≤ (List.length a : Int)) && decide ((List.length a : Int) * 8 ≤ 140737488355328)) (match loopO laws_toIntS_B0 ((a, (List.replicate (Int.toNat (List.length a : Int)) (0 : Int)), (0 : Int), ()), ()) with | some ((out, ()), ()) => some ((out, ()), ()) | none => none)
noncomputable def laws_toIntS_x : Cx := ⟨tab, laws_toGraph_e, fun _ _ => 0, fun _ => false, [], []⟩
noncomputable def c25 : Code := bodyOf Tryz.f25
noncomputable def laws_toIntS_A : Ann := .seq .nil (.seq .nil (.seq (.seq .nil (.loop laws_toIntS_J0 laws_toIntS_O0 laws_toIntS_B0 .nil)) .nil))
theorem laws_toIntS_r0 (p : laws_toIntS_J0.P) : run laws_toIntS_x (subc [1, 1, 0, 1, 0, 0] c25) .nil (laws_toIntS_J0.S p) (leaf laws_toIntS_J0 laws_toIntS_O0) = laws_toIntS_B0 p := by kernel_rfl
noncomputable def laws_toIntS_D : Ve.Fn := ⟨25, laws_toIntS_a, laws_toIntS_o, laws_toIntS_E, laws_toIntS⟩
theorem laws_toIntS_w : Walk Tryz.prog laws_toIntS_x laws_toIntS_D Tryz.f25 c25 22 laws_toIntS_A :=
  ⟨⟨Tryz.func25, by kernel_rfl, by kernel_rfl, by kernel_rfl, by decide, by kernel_rfl, Nat.le_of_ble_eq_true (by kernel_rfl)⟩, by kernel_rfl, by kernel_rfl, by kernel_rfl, kcast (by kernel_rfl) (⟨laws_toIntS_r0, trivial⟩ : (∀ p, run laws_toIntS_x (subc [1, 1, 0, 1, 0, 0] c25) .nil (laws_toIntS_J0.S p) (leaf laws_toIntS_J0 laws_toIntS_O0) = laws_toIntS_B0 p) ∧ True), by kernel_rfl, fun x y => by kernel_rfl⟩
theorem laws_toIntS_s : laws_toIntS_D.Says Tryz.prog := laws_toIntS_w.says follows tabOk laws_toGraph_e_ok
noncomputable def laws_toIntS_e : Env := more laws_toGraph_e laws_toIntS_D
theorem laws_toIntS_e_ok : EnvOk Tryz.prog laws_toIntS_e := more_ok laws_toGraph_e_ok laws_toIntS_s
/-! loop.example/g01128/laws.toStudio -/
abbrev laws_toStudio_E : Ve.End := ⟨[⟨2, (.prod (.prod .shr (.own .shr)) (.prod .shr (.prod (.own .shr) (.prod (.own .shr) (.prod (.own .shr) .shr))))), (.prod (.prod I (.list (.prod I I))) (.prod I (.prod (.list I) (.prod (.list I) (.prod (.list I) I))))), some 31⟩], []⟩
abbrev laws_toStudio_a : List ASh := [.val (.prod (.prod I (.list (.prod I I))) (.prod I (.prod (.list I) (.prod (.list I) (.prod (.list I) I)))))]
abbrev laws_toStudio_o : List OSh := []
noncomputable def laws_toStudio : argP laws_toStudio_a → obP (extObs 0 laws_toStudio_o) → Option laws_toStudio_E.P
  | (a, ()), () => match laws_toGraph (a.1, ()) () with | some ((r, ()), ()) => (match laws_toIntS (a.2.2.1, ()) () with | some ((r2, ()), ()) => (match laws_toIntS (a.2.2.2.1, ()) () with | some ((r3, ()), ()) => (match laws_toIntS (a.2.2.2.2.1, ()) () with | some ((r4, ()), ()) => some ((((r.1, r.2), (a.2.1, (r2, (r3, (r4, a.2.2.2.2.2))))), ()), ()) | none => none) | none => none) | none => none) | none => none
noncomputable def laws_toStudio_x : Cx := ⟨tab, laws_toIntS_e, fun _ _ => 0, fun _ => false, [], [(1, 0)]⟩
noncomputable def c12 : Code := bodyOf Tryz.f12
noncomputable def laws_toStudio_A : Ann := .nil
noncomputable def laws_toStudio_D : Ve.Fn := ⟨12, laws_toStudio_a, laws_toStudio_o, laws_toStudio_E, laws_toStudio⟩
theorem laws_toStudio_w : Walk Tryz.prog laws_toStudio_x laws_toStudio_D Tryz.f12 c12 27 laws_toStudio_A :=
  ⟨⟨Tryz.func12, by kernel_rfl, by kernel_rfl, by kernel_rfl, by decide, by kernel_rfl, Nat.le_of_ble_eq_true (by kernel_rfl)⟩, by kernel_rfl, by kernel_rfl, by kernel_rfl, kcast (by kernel_rfl) trivial, by kernel_rfl, fun x y => by kernel_rfl⟩
theorem laws_toStudio_s : laws_toStudio_D.Says Tryz.prog := laws_toStudio_w.says follows tabOk laws_toIntS_e_ok
noncomputable def laws_toStudio_e : Env := more laws_toIntS_e laws_toStudio_D
theorem laws_toStudio_e_ok : EnvOk Tryz.prog laws_toStudio_e := more_ok laws_toIntS_e_ok laws_toStudio_s
/-! loop.example/g01128/spec.l1In -/
abbrev spec_l1In_E : Ve.End := ⟨[⟨6, .shr, .bool, none⟩], []⟩
abbrev spec_l1In_a : List ASh := [.val I, .val I, .val I]
abbrev spec_l1In_o : List OSh := []
noncomputable def spec_l1In : argP spec_l1In_a → obP (extObs 0 spec_l1In_o) → Option spec_l1In_E.P
  | (x, a, b, ()), () => bif (decide (a ≤ x)) then (some (((decide (x ≤ b)), ()), ())) else (some ((false, ()), ()))
noncomputable def spec_l1In_x : Cx := ⟨tab, laws_toStudio_e, fun _ _ => 0, fun _ => false, [], []⟩
noncomputable def c107 : Code := bodyOf Tryz.f107
noncomputable def spec_l1In_A : Ann := .nil
noncomputable def spec_l1In_D : Ve.Fn := ⟨107, spec_l1In_a, spec_l1In_o, spec_l1In_E, spec_l1In⟩
theorem spec_l1In_w : Walk Tryz.prog spec_l1In_x spec_l1In_D Tryz.f107 c107 15 spec_l1In_A :=
  ⟨⟨Tryz.func107, by kernel_rfl, by kernel_rfl, by kernel_rfl, by decide, by kernel_rfl, Nat.le_of_ble_eq_true (by kernel_rfl)⟩, by kernel_rfl, by kernel_rfl, by kernel_rfl, kcast (by kernel_rfl) trivial, by kernel_rfl, fun x y => by kernel_rfl⟩
theorem spec_l1In_s : spec_l1In_D.Says Tryz.prog := spec_l1In_w.says follows tabOk laws_toStudio_e_ok
noncomputable def spec_l1In_e : Env := more laws_toStudio_e spec_l1In_D
theorem spec_l1In_e_ok : EnvOk Tryz.prog spec_l1In_e := more_ok laws_toStudio_e_ok spec_l1In_s
/-! loop.example/g01128/spec.l2Edge -/
abbrev spec_l2Edge_E : Ve.End := ⟨[⟨4, .shr, .bool, none⟩], []⟩
abbrev spec_l2Edge_a : List ASh := [.val (.prod I I), .val (.prod I I)]
abbrev spec_l2Edge_o : List OSh := []
noncomputable def spec_l2Edge : argP spec_l2Edge_a → obP (extObs 0 spec_l2Edge_o) → Option spec_l2Edge_E.P
  | (a, b, ()), () => bif (decide (a.1 < b.1)) then (some ((true, ()), ())) else (bif (a.1 == b.1) then (some (((decide (a.2 < b.2)), ()), ())) else (some ((false, ()), ())))
noncomputable def spec_l2Edge_x : Cx := ⟨tab, spec_l1In_e, fun _ _ => 0, fun _ => false, [], [(2, 0), (3, 0)]⟩
noncomputable def c243 : Code := bodyOf Tryz.f243
noncomputable def spec_l2Edge_A : Ann := .nil
noncomputable def spec_l2Edge_D : Ve.Fn := ⟨243, spec_l2Edge_a, spec_l2Edge_o, spec_l2Edge_E, spec_l2Edge⟩
theorem spec_l2Edge_w : Walk Tryz.prog spec_l2Edge_x spec_l2Edge_D Tryz.f243 c243 24 spec_l2Edge_A :=
  ⟨⟨Tryz.func243, by kernel_rfl, by kernel_rfl, by kernel_rfl, by decide, by kernel_rfl, Nat.le_of_ble_eq_true (by kernel_rfl)⟩, by kernel_rfl, by kernel_rfl, by kernel_rfl, kcast (by kernel_rfl) trivial, by kernel_rfl, fun x y => by kernel_rfl⟩
theorem spec_l2Edge_s : spec_l2Edge_D.Says Tryz.prog := spec_l2Edge_w.says follows tabOk spec_l1In_e_ok
noncomputable def spec_l2Edge_e : Env := more spec_l1In_e spec_l2Edge_D
theorem spec_l2Edge_e_ok : EnvOk Tryz.prog spec_l2Edge_e := more_ok spec_l1In_e_ok spec_l2Edge_s
/-! loop.example/g01128/spec.l2Pairs -/
abbrev spec_l2Pairs_J0 : Tpl := ⟨[(0, .val (.list (.prod I I))), (1, .val I), (5, .val I)], [], []⟩
abbrev spec_l2Pairs_J1 : Tpl := ⟨[(4, .val .bool)], [], []⟩
abbrev spec_l2Pairs_J2 : Tpl := ⟨[], [], []⟩
abbrev spec_l2Pairs_E : Ve.End := ⟨[⟨4, .shr, .bool, none⟩], []⟩
abbrev spec_l2Pairs_a : List ASh := [.val (.list (.prod I I)), .val I]
abbrev spec_l2Pairs_o : List OSh := []
abbrev spec_l2Pairs_O0 : Out := .or .ret spec_l2Pairs_J1 (.one (.ex 0) spec_l2Pairs_J2)
noncomputable def spec_l2Pairs_B0 : spec_l2Pairs_J0.P → Option (spec_l2Pairs_J0.P ⊕ spec_l2Pairs_O0.P)
  | ((pairs, n, i, ()), ()) => bif (decide (i < (List.length pairs : Int))) then (guardB (inb i (List.length pairs)) (match spec_l1In ((List.getD pairs (Int.toNat i) ((0 : Int), (0 : Int))).1, (0 : Int), (w64 (n - (1 : Int))), ()) () with | some ((r, ()), ()) => (bif (!r) then (some (.inr (.inl ((false, ()), ())))) else (match spec_l1In ((List.getD pairs (Int.toNat i) ((0 : Int), (0 : Int))).2, (0 : Int), (w64 (n - (1 : Int))), ()) () with | some ((r2, ()), ()) => (bif (!r2) then (some (.inr (.inl ((false, ()), ())))) else (bif (decide (((List.getD pairs (Int.toNat i) ((0 : Int), (0 : Int))).2) ≤ ((List.getD pairs (Int.toNat i) ((0 : Int), (0 : Int))).1))) then (some (.inr (.inl ((false, ()), ())))) else (bif (decide ((0 : Int) < i)) then (guardB (inb (w64 (i - (1 : Int))) (List.length pairs)) (match spec_l2Edge ((List.getD pairs (Int.toNat (w64 (i - (1 : Int)))) ((0 : Int), (0 : Int))), (List.getD pairs (Int.toNat i) ((0 : Int), (0 : Int))), ()) () with | some ((r3, ()), ()) => (bif (!r3) then (some (.inr (.inl ((false, ()), ())))) else (some (.inl ((pairs, n, (w64 (i + (1 : Int))), ()), ())))) | none => none)) else (some (.inl ((pairs, n, (w64 (i + (1 : Int))), ()), ())))))) | none => none)) | none => none)) else (some (.inr (.inr ((), ()))))
noncomputable def spec_l2Pairs : argP spec_l2Pairs_a → obP (extObs 0 spec_l2Pairs_o) → Option spec_l2Pairs_E.P
  | (pairs, n, ()), () => match loopO spec_l2Pairs_B0 ((pairs, n, (0 : Int), ()), ()) with | some (.inl ((t4, ()), ())) => some ((t4, ()), ()) | some (.inr ((), ())) => some ((true, ()), ()) | none => none
noncomputable def spec_l2Pairs_x : Cx := ⟨tab, spec_l2Edge_e, fun _ _ => 0, fun _ => false, [(21, 0), (21, 1), (21, 2), (21, 3), (28, 0), (28, 1), (28, 2), (28, 3), (48, 0), (48, 1), (48, 2), (48, 3)], [(6, 0)]⟩
noncomputable def c201 : Code := bodyOf Tryz.f201
noncomputable def spec_l2Pairs_A : Ann := .seq .nil (.seq (.seq .nil (.loop spec_l2Pairs_J0 spec_l2Pairs_O0 spec_l2Pairs_B0 (.seq .nil (.seq (.seq .nil (.seq (.draw [(0, .flo), (1, .flo), (2, .flo), (3, .flo), (4, .sole), (5, .flo), (6, .flo), (7, .flo), (9, .flo), (10, .flo), (8, .qui), (11, .sole), (12, .flo), (13, .flo), (14, .flo), (15, .flo), (17, .flo), (16, .qui), (18, .qui), (19, .flo), (20, .flo), (21, .flo), (22, .flo), (23, .flo), (24, .flo), (25, .flo), (26, .flo), (27, .flo), (28, .flo), (29, .qui), (30, .qui), (31, .sole), (32, .flo), (33, .flo), (34, .flo)]) .nil)) .nil)))) .nil)
theorem spec_l2Pairs_r0 (p : spec_l2Pairs_J0.P) : run spec_l2Pairs_x (subc [1, 0, 1, 0, 0] c201) (.seq .nil (.seq (.seq .nil (.seq (.draw [(0, .flo), (1, .flo), (2, .flo), (3, .flo), (4, .sole), (5, .flo), (6, .flo), (7, .flo), (9, .flo), (10, .flo), (8, .qui), (11, .sole), (12, .flo), (13, .flo), (14, .flo), (15, .flo), (17, .flo), (16, .qui), (18, .qui), (19, .flo), (20, .flo), (21, .flo), (22, .flo), (23, .flo), (24, .flo), (25, .flo), (26, .flo), (27, .flo), (28, .flo), (29, .qui), (30, .qui), (31, .sole), (32, .flo), (33, .flo), (34, .flo)]) .nil)) .nil)) (spec_l2Pairs_J0.S p) (leaf spec_l2Pairs_J0 spec_l2Pairs_O0) = spec_l2Pairs_B0 p := by kernel_rfl
noncomputable def spec_l2Pairs_D : Ve.Fn := ⟨201, spec_l2Pairs_a, spec_l2Pairs_o, spec_l2Pairs_E, spec_l2Pairs⟩
theorem spec_l2Pairs_w : Walk Tryz.prog spec_l2Pairs_x spec_l2Pairs_D Tryz.f201 c201 52 spec_l2Pairs_A :=
  ⟨⟨Tryz.func201, by kernel_rfl, by kernel_rfl, by kernel_rfl, by decide, by kernel_rfl, Nat.le_of_ble_eq_true (by kernel_rfl)⟩, by kernel_rfl, by kernel_rfl, by kernel_rfl, kcast (by kernel_rfl) (⟨spec_l2Pairs_r0, trivial⟩ : (∀ p, run spec_l2Pairs_x (subc [1, 0, 1, 0, 0] c201) (.seq .nil (.seq (.seq .nil (.seq (.draw [(0, .flo), (1, .flo), (2, .flo), (3, .flo), (4, .sole), (5, .flo), (6, .flo), (7, .flo), (9, .flo), (10, .flo), (8, .qui), (11, .sole), (12, .flo), (13, .flo), (14, .flo), (15, .flo), (17, .flo), (16, .qui), (18, .qui), (19, .flo), (20, .flo), (21, .flo), (22, .flo), (23, .flo), (24, .flo), (25, .flo), (26, .flo), (27, .flo), (28, .flo), (29, .qui), (30, .qui), (31, .sole), (32, .flo), (33, .flo), (34, .flo)]) .nil)) .nil)) (spec_l2Pairs_J0.S p) (leaf spec_l2Pairs_J0 spec_l2Pairs_O0) = spec_l2Pairs_B0 p) ∧ True), by kernel_rfl, fun x y => by kernel_rfl⟩
theorem spec_l2Pairs_s : spec_l2Pairs_D.Says Tryz.prog := spec_l2Pairs_w.says follows tabOk spec_l2Edge_e_ok
noncomputable def spec_l2Pairs_e : Env := more spec_l2Edge_e spec_l2Pairs_D
theorem spec_l2Pairs_e_ok : EnvOk Tryz.prog spec_l2Pairs_e := more_ok spec_l2Edge_e_ok spec_l2Pairs_s
/-! loop.example/g01128/spec.l2Good -/
abbrev spec_l2Good_E : Ve.End := ⟨[⟨2, .shr, .bool, none⟩], []⟩
abbrev spec_l2Good_a : List ASh := [.val (.prod I (.list (.prod I I)))]
abbrev spec_l2Good_o : List OSh := []
noncomputable def spec_l2Good : argP spec_l2Good_a → obP (extObs 0 spec_l2Good_o) → Option spec_l2Good_E.P
  | (g, ()), () => match spec_l1In (g.1, (0 : Int), (8 : Int), ()) () with | some ((r, ()), ()) => (bif r then (match spec_l2Pairs (g.2, g.1, ()) () with | some ((r2, ()), ()) => some ((r2, ()), ()) | none => none) else (some ((false, ()), ()))) | none => none
noncomputable def spec_l2Good_x : Cx := ⟨tab, spec_l2Pairs_e, fun _ _ => 0, fun _ => false, [(5, 0), (5, 1), (5, 2), (5, 3), (11, 0), (11, 1), (11, 2), (11, 3)], [(1, 0)]⟩
noncomputable def c143 : Code := bodyOf Tryz.f143
noncomputable def spec_l2Good_A : Ann := .nil
noncomputable def spec_l2Good_D : Ve.Fn := ⟨143, spec_l2Good_a, spec_l2Good_o, spec_l2Good_E, spec_l2Good⟩
theorem spec_l2Good_w : Walk Tryz.prog spec_l2Good_x spec_l2Good_D Tryz.f143 c143 13 spec_l2Good_A :=
  ⟨⟨Tryz.func143, by kernel_rfl, by kernel_rfl, by kernel_rfl, by decide, by kernel_rfl, Nat.le_of_ble_eq_true (by kernel_rfl)⟩, by kernel_rfl, by kernel_rfl, by kernel_rfl, kcast (by kernel_rfl) trivial, by kernel_rfl, fun x y => by kernel_rfl⟩
theorem spec_l2Good_s : spec_l2Good_D.Says Tryz.prog := spec_l2Good_w.says follows tabOk spec_l2Pairs_e_ok
noncomputable def spec_l2Good_e : Env := more spec_l2Pairs_e spec_l2Good_D
theorem spec_l2Good_e_ok : EnvOk Tryz.prog spec_l2Good_e := more_ok spec_l2Pairs_e_ok spec_l2Good_s
/-! loop.example/g01128/spec.l5Ask -/
abbrev spec_l5Ask_E : Ve.End := ⟨[⟨4, .shr, .bool, none⟩], []⟩
abbrev spec_l5Ask_a : List ASh := [.val (.prod I (.list (.prod I I))), .val I]
abbrev spec_l5Ask_o : List OSh := []
noncomputable def spec_l5Ask : argP spec_l5Ask_a → obP (extObs 0 spec_l5Ask_o) → Option spec_l5Ask_E.P
  | (g, k, ()), () => match spec_l2Good (g, ()) () with | some ((r, ()), ()) => (bif r then (match spec_l1In (k, (1 : Int), (5 : Int), ()) () with | some ((r2, ()), ()) => some ((r2, ()), ()) | none => none) else (some ((false, ()), ()))) | none => none
noncomputable def spec_l5Ask_x : Cx := ⟨tab, spec_l2Good_e, fun _ _ => 0, fun _ => false, [(6, 0), (6, 1), (6, 2), (6, 3), (9, 0), (9, 1), (9, 2), (9, 3)], [(2, 0)]⟩
noncomputable def c85 : Code := bodyOf Tryz.f85
noncomputable def spec_l5Ask_A : Ann := .nil
noncomputable def spec_l5Ask_D : Ve.Fn := ⟨85, spec_l5Ask_a, spec_l5Ask_o, spec_l5Ask_E, spec_l5Ask⟩
theorem spec_l5Ask_w : Walk Tryz.prog spec_l5Ask_x spec_l5Ask_D Tryz.f85 c85 11 spec_l5Ask_A :=
  ⟨⟨Tryz.func85, by kernel_rfl, by kernel_rfl, by kernel_rfl, by decide, by kernel_rfl, Nat.le_of_ble_eq_true (by kernel_rfl)⟩, by kernel_rfl, by kernel_rfl, by kernel_rfl, kcast (by kernel_rfl) trivial, by kernel_rfl, fun x y => by kernel_rfl⟩
theorem spec_l5Ask_s : spec_l5Ask_D.Says Tryz.prog := spec_l5Ask_w.says follows tabOk spec_l2Good_e_ok
noncomputable def spec_l5Ask_e : Env := more spec_l2Good_e spec_l5Ask_D
theorem spec_l5Ask_e_ok : EnvOk Tryz.prog spec_l5Ask_e := more_ok spec_l2Good_e_ok spec_l5Ask_s
/-! loop.example/g01128/spec.l1Has -/
abbrev spec_l1Has_J0 : Tpl := ⟨[(0, .val (.list I)), (1, .val I), (5, .val I)], [], []⟩
abbrev spec_l1Has_J1 : Tpl := ⟨[(4, .val .bool)], [], []⟩
abbrev spec_l1Has_J2 : Tpl := ⟨[], [], []⟩
abbrev spec_l1Has_E : Ve.End := ⟨[⟨4, .shr, .bool, none⟩], []⟩
abbrev spec_l1Has_a : List ASh := [.val (.list I), .val I]
abbrev spec_l1Has_o : List OSh := []
abbrev spec_l1Has_O0 : Out := .or .ret spec_l1Has_J1 (.one (.ex 0) spec_l1Has_J2)
noncomputable def spec_l1Has_B0 : spec_l1Has_J0.P → Option (spec_l1Has_J0.P ⊕ spec_l1Has_O0.P)
  | ((l, n, i, ()), ()) => bif (decide (i < (List.length l : Int))) then (guardB (inb i (List.length l)) (bif ((List.getD l (Int.toNat i) (0 : Int)) == n) then (some (.inr (.inl ((true, ()), ())))) else (some (.inl ((l, n, (w64 (i + (1 : Int))), ()), ()))))) else (some (.inr (.inr ((), ()))))
noncomputable def spec_l1Has : argP spec_l1Has_a → obP (extObs 0 spec_l1Has_o) → Option spec_l1Has_E.P
  | (l, n, ()), () => match loopO spec_l1Has_B0 ((l, n, (0 : Int), ()), ()) with | some (.inl ((t4, ()), ())) => some ((t4, ()), ()) | some (.inr ((), ())) => some ((false, ()), ()) | none => none
noncomputable def spec_l1Has_x : Cx := ⟨tab, spec_l5Ask_e, fun _ _ => 0, fun _ => false, [], []⟩
noncomputable def c181 : Code := bodyOf Tryz.f181
noncomputable def spec_l1Has_A : Ann := .seq .nil (.seq (.seq .nil (.loop spec_l1Has_J0 spec_l1Has_O0 spec_l1Has_B0 .nil)) .nil)
theorem spec_l1Has_r0 (p : spec_l1Has_J0.P) : run spec_l1Has_x (subc [1, 0, 1, 0, 0] c181) .nil (spec_l1Has_J0.S p) (leaf spec_l1Has_J0 spec_l1Has_O0) = spec_l1Has_B0 p := by kernel_rfl
noncomputable def spec_l1Has_D : Ve.Fn := ⟨181, spec_l1Has_a, spec_l1Has_o, spec_l1Has_E, spec_l1Has⟩
theorem spec_l1Has_w : Walk Tryz.prog spec_l1Has_x spec_l1Has_D Tryz.f181 c181 18 spec_l1Has_A :=
  ⟨⟨Tryz.func181, by kernel_rfl, by kernel_rfl, by kernel_rfl, by decide, by kernel_rfl, Nat.le_of_ble_eq_true (by kernel_rfl)⟩, by kernel_rfl, by kernel_rfl, by kernel_rfl, kcast (by kernel_rfl) (⟨spec_l1Has_r0, trivial⟩ : (∀ p, run spec_l1Has_x (subc [1, 0, 1, 0, 0] c181) .nil (spec_l1Has_J0.S p) (leaf spec_l1Has_J0 spec_l1Has_O0) = spec_l1Has_B0 p) ∧ True), by kernel_rfl, fun x y => by kernel_rfl⟩
theorem spec_l1Has_s : spec_l1Has_D.Says Tryz.prog := spec_l1Has_w.says follows tabOk spec_l5Ask_e_ok
noncomputable def spec_l1Has_e : Env := more spec_l5Ask_e spec_l1Has_D
theorem spec_l1Has_e_ok : EnvOk Tryz.prog spec_l1Has_e := more_ok spec_l5Ask_e_ok spec_l1Has_s
/-! loop.example/g01128/spec.l9Perm -/
abbrev spec_l9Perm_J0 : Tpl := ⟨[(0, .val (.list I)), (3, .val I)], [], []⟩
abbrev spec_l9Perm_J1 : Tpl := ⟨[(2, .val .bool)], [], []⟩
abbrev spec_l9Perm_J2 : Tpl := ⟨[(0, .val (.list I))], [], []⟩
abbrev spec_l9Perm_E : Ve.End := ⟨[⟨2, .shr, .bool, none⟩], []⟩
abbrev spec_l9Perm_a : List ASh := [.val (.list I)]
abbrev spec_l9Perm_o : List OSh := []
abbrev spec_l9Perm_O0 : Out := .or .ret spec_l9Perm_J1 (.one (.ex 0) spec_l9Perm_J2)
noncomputable def spec_l9Perm_B0 : spec_l9Perm_J0.P → Option (spec_l9Perm_J0.P ⊕ spec_l9Perm_O0.P)
  | ((p, x, ()), ()) => bif (decide (x < (List.length p : Int))) then (bif (decide ((List.length p : Int) ≤ (8 : Int))) then (match spec_l1Has (p, x, ()) () with | some ((r, ()), ()) => (bif (!r) then (some (.inr (.inl ((false, ()), ())))) else (some (.inl ((p, (w64 (x + (1 : Int))), ()), ())))) | none => none) else (some (.inr (.inr ((p, ()), ()))))) else (some (.inr (.inr ((p, ()), ()))))
noncomputable def spec_l9Perm : argP spec_l9Perm_a → obP (extObs 0 spec_l9Perm_o) → Option spec_l9Perm_E.P
  | (p, ()), () => match loopO spec_l9Perm_B0 ((p, (0 : Int), ()), ()) with | some (.inl ((t2, ()), ())) => some ((t2, ()), ()) | some (.inr ((p2, ()), ())) => some (((decide ((List.length p2 : Int) ≤ (8 : Int))), ()), ()) | none => none
noncomputable def spec_l9Perm_x : Cx := ⟨tab, spec_l1Has_e, fun _ _ => 0, fun _ => false, [(17, 0), (17, 1), (17, 2), (17, 3)], []⟩
noncomputable def c217 : Code := bodyOf Tryz.f217
noncomputable def spec_l9Perm_A : Ann := .seq .nil (.seq (.seq .nil (.loop spec_l9Perm_J0 spec_l9Perm_O0 spec_l9Perm_B0 .nil)) .nil)
theorem spec_l9Perm_r0 (p : spec_l9Perm_J0.P) : run spec_l9Perm_x (subc [1, 0, 1, 0, 0] c217) .nil (spec_l9Perm_J0.S p) (leaf spec_l9Perm_J0 spec_l9Perm_O0) = spec_l9Perm_B0 p := by kernel_rfl
noncomputable def spec_l9Perm_D : Ve.Fn := ⟨217, spec_l9Perm_a, spec_l9Perm_o, spec_l9Perm_E, spec_l9Perm⟩
theorem spec_l9Perm_w : Walk Tryz.prog spec_l9Perm_x spec_l9Perm_D Tryz.f217 c217 22 spec_l9Perm_A :=
  ⟨⟨Tryz.func217, by kernel_rfl, by kernel_rfl, by kernel_rfl, by decide, by kernel_rfl, Nat.le_of_ble_eq_true (by kernel_rfl)⟩, by kernel_rfl, by kernel_rfl, by kernel_rfl, kcast (by kernel_rfl) (⟨spec_l9Perm_r0, trivial⟩ : (∀ p, run spec_l9Perm_x (subc [1, 0, 1, 0, 0] c217) .nil (spec_l9Perm_J0.S p) (leaf spec_l9Perm_J0 spec_l9Perm_O0) = spec_l9Perm_B0 p) ∧ True), by kernel_rfl, fun x y => by kernel_rfl⟩
theorem spec_l9Perm_s : spec_l9Perm_D.Says Tryz.prog := spec_l9Perm_w.says follows tabOk spec_l1Has_e_ok
noncomputable def spec_l9Perm_e : Env := more spec_l1Has_e spec_l9Perm_D
theorem spec_l9Perm_e_ok : EnvOk Tryz.prog spec_l9Perm_e := more_ok spec_l1Has_e_ok spec_l9Perm_s
/-! loop.example/g01128/spec.l9Field -/
abbrev spec_l9Field_E : Ve.End := ⟨[⟨4, .shr, .bool, none⟩], []⟩
abbrev spec_l9Field_a : List ASh := [.val (.prod I (.list (.prod I I))), .val (.list I)]
abbrev spec_l9Field_o : List OSh := []
noncomputable def spec_l9Field : argP spec_l9Field_a → obP (extObs 0 spec_l9Field_o) → Option spec_l9Field_E.P
  | (g, p, ()), () => match spec_l2Good (g, ()) () with | some ((r, ()), ()) => (bif r then (bif (decide (g.1 ≤ (6 : Int))) then (bif ((List.length p : Int) == g.1) then (match spec_l9Perm (p, ()) () with | some ((r2, ()), ()) => some ((r2, ()), ()) | none => none) else (some ((false, ()), ()))) else (some ((false, ()), ()))) else (some ((false, ()), ()))) | none => none
noncomputable def spec_l9Field_x : Cx := ⟨tab, spec_l9Perm_e, fun _ _ => 0, fun _ => false, [(6, 0), (6, 1), (6, 2), (6, 3), (21, 0), (21, 1), (21, 2), (21, 3)], [(2, 0)]⟩
noncomputable def c168 : Code := bodyOf Tryz.f168
noncomputable def spec_l9Field_A : Ann := .nil
noncomputable def spec_l9Field_D : Ve.Fn := ⟨168, spec_l9Field_a, spec_l9Field_o, spec_l9Field_E, spec_l9Field⟩
theorem spec_l9Field_w : Walk Tryz.prog spec_l9Field_x spec_l9Field_D Tryz.f168 c168 23 spec_l9Field_A :=
  ⟨⟨Tryz.func168, by kernel_rfl, by kernel_rfl, by kernel_rfl, by decide, by kernel_rfl, Nat.le_of_ble_eq_true (by kernel_rfl)⟩, by kernel_rfl, by kernel_rfl, by kernel_rfl, kcast (by kernel_rfl) trivial, by kernel_rfl, fun x y => by kernel_rfl⟩
theorem spec_l9Field_s : spec_l9Field_D.Says Tryz.prog := spec_l9Field_w.says follows tabOk spec_l9Perm_e_ok
noncomputable def spec_l9Field_e : Env := more spec_l9Perm_e spec_l9Field_D
theorem spec_l9Field_e_ok : EnvOk Tryz.prog spec_l9Field_e := more_ok spec_l9Perm_e_ok spec_l9Field_s
/-! loop.example/g01128/spec.l9Board -/
abbrev spec_l9Board_E : Ve.End := ⟨[⟨4, .shr, .bool, none⟩], []⟩
abbrev spec_l9Board_a : List ASh := [.val (.prod I (.list (.prod I I))), .val (.list I)]
abbrev spec_l9Board_o : List OSh := []
noncomputable def spec_l9Board : argP spec_l9Board_a → obP (extObs 0 spec_l9Board_o) → Option spec_l9Board_E.P
  | (g, board, ()), () => match spec_l9Field (g, board, ()) () with | some ((r, ()), ()) => (bif r then (some (((decide ((0 : Int) < g.1)), ()), ())) else (some ((false, ()), ()))) | none => none
noncomputable def spec_l9Board_x : Cx := ⟨tab, spec_l9Field_e, fun _ _ => 0, fun _ => false, [(7, 0), (7, 1), (7, 2), (7, 3)], [(2, 0)]⟩
noncomputable def c105 : Code := bodyOf Tryz.f105
noncomputable def spec_l9Board_A : Ann := .nil
noncomputable def spec_l9Board_D : Ve.Fn := ⟨105, spec_l9Board_a, spec_l9Board_o, spec_l9Board_E, spec_l9Board⟩
theorem spec_l9Board_w : Walk Tryz.prog spec_l9Board_x spec_l9Board_D Tryz.f105 c105 13 spec_l9Board_A :=
  ⟨⟨Tryz.func105, by kernel_rfl, by kernel_rfl, by kernel_rfl, by decide, by kernel_rfl, Nat.le_of_ble_eq_true (by kernel_rfl)⟩, by kernel_rfl, by kernel_rfl, by kernel_rfl, kcast (by kernel_rfl) trivial, by kernel_rfl, fun x y => by kernel_rfl⟩
theorem spec_l9Board_s : spec_l9Board_D.Says Tryz.prog := spec_l9Board_w.says follows tabOk spec_l9Field_e_ok
noncomputable def spec_l9Board_e : Env := more spec_l9Field_e spec_l9Board_D
theorem spec_l9Board_e_ok : EnvOk Tryz.prog spec_l9Board_e := more_ok spec_l9Field_e_ok spec_l9Board_s
/-! loop.example/g01128/spec.l2Near -/
abbrev spec_l2Near_J0 : Tpl := ⟨[(1, .val I), (2, .val I), (3, .cst (.prod I (.list (.prod I I)))), (7, .val I)], [], []⟩
abbrev spec_l2Near_J1 : Tpl := ⟨[(6, .val .bool)], [], []⟩
abbrev spec_l2Near_J2 : Tpl := ⟨[], [], []⟩
abbrev spec_l2Near_E : Ve.End := ⟨[⟨6, .shr, .bool, none⟩], []⟩
abbrev spec_l2Near_a : List ASh := [.val (.prod I (.list (.prod I I))), .val I, .val I]
abbrev spec_l2Near_o : List OSh := []
abbrev spec_l2Near_O0 : Out := .or .ret spec_l2Near_J1 (.one (.ex 0) spec_l2Near_J2)
noncomputable def spec_l2Near_B0 : spec_l2Near_J0.P → Option (spec_l2Near_J0.P ⊕ spec_l2Near_O0.P)
  | ((a, b, g, i, ()), ()) => bif (decide (i < (List.length g.2 : Int))) then (guardB (inb i (List.length g.2)) (bif (((List.getD g.2 (Int.toNat i) ((0 : Int), (0 : Int))).1) == a) then (bif (((List.getD g.2 (Int.toNat i) ((0 : Int), (0 : Int))).2) == b) then (some (.inr (.inl ((true, ()), ())))) else (bif (((List.getD g.2 (Int.toNat i) ((0 : Int), (0 : Int))).1) == b) then (bif (((List.getD g.2 (Int.toNat i) ((0 : Int), (0 : Int))).2) == a) then (some (.inr (.inl ((true, ()), ())))) else (some (.inl ((a, b, g, (w64 (i + (1 : Int))), ()), ())))) else (some (.inl ((a, b, g, (w64 (i + (1 : Int))), ()), ()))))) else (bif (((List.getD g.2 (Int.toNat i) ((0 : Int), (0 : Int))).1) == b) then (bif (((List.getD g.2 (Int.toNat i) ((0 : Int), (0 : Int))).2) == a) then (some (.inr (.inl ((true, ()), ())))) else (some (.inl ((a, b, g, (w64 (i + (1 : Int))), ()), ())))) else (some (.inl ((a, b, g, (w64 (i + (1 : Int))), ()), ())))))) else (some (.inr (.inr ((), ()))))
noncomputable def spec_l2Near : argP spec_l2Near_a → obP (extObs 0 spec_l2Near_o) → Option spec_l2Near_E.P
  | (g, a, b, ()), () => match loopO spec_l2Near_B0 ((a, b, g, (0 : Int), ()), ()) with | some (.inl ((t6, ()), ())) => some ((t6, ()), ()) | some (.inr ((), ())) => some ((false, ()), ()) | none => none
noncomputable def spec_l2Near_x : Cx := ⟨tab, spec_l9Board_e, fun _ _ => 0, fun _ => false, [], [(3, 0), (8, 0)]⟩
noncomputable def c169 : Code := bodyOf Tryz.f169
noncomputable def spec_l2Near_A : Ann := .seq .nil (.seq (.seq .nil (.loop spec_l2Near_J0 spec_l2Near_O0 spec_l2Near_B0 .nil)) .nil)
theorem spec_l2Near_r0 (p : spec_l2Near_J0.P) : run spec_l2Near_x (subc [1, 0, 1, 0, 0] c169) .nil (spec_l2Near_J0.S p) (leaf spec_l2Near_J0 spec_l2Near_O0) = spec_l2Near_B0 p := by kernel_rfl
noncomputable def spec_l2Near_D : Ve.Fn := ⟨169, spec_l2Near_a, spec_l2Near_o, spec_l2Near_E, spec_l2Near⟩
theorem spec_l2Near_w : Walk Tryz.prog spec_l2Near_x spec_l2Near_D Tryz.f169 c169 43 spec_l2Near_A :=
  ⟨⟨Tryz.func169, by kernel_rfl, by kernel_rfl, by kernel_rfl, by decide, by kernel_rfl, Nat.le_of_ble_eq_true (by kernel_rfl)⟩, by kernel_rfl, by kernel_rfl, by kernel_rfl, kcast (by kernel_rfl) (⟨spec_l2Near_r0, trivial⟩ : (∀ p, run spec_l2Near_x (subc [1, 0, 1, 0, 0] c169) .nil (spec_l2Near_J0.S p) (leaf spec_l2Near_J0 spec_l2Near_O0) = spec_l2Near_B0 p) ∧ True), by kernel_rfl, fun x y => by kernel_rfl⟩
theorem spec_l2Near_s : spec_l2Near_D.Says Tryz.prog := spec_l2Near_w.says follows tabOk spec_l9Board_e_ok
noncomputable def spec_l2Near_e : Env := more spec_l9Board_e spec_l2Near_D
theorem spec_l2Near_e_ok : EnvOk Tryz.prog spec_l2Near_e := more_ok spec_l9Board_e_ok spec_l2Near_s
/-! loop.example/g01128/spec.l1Rising -/
abbrev spec_l1Rising_J0 : Tpl := ⟨[(0, .val (.list I)), (1, .val I), (2, .val I), (7, .val I)], [], []⟩
abbrev spec_l1Rising_J1 : Tpl := ⟨[(6, .val .bool)], [], []⟩
abbrev spec_l1Rising_J2 : Tpl := ⟨[], [], []⟩
abbrev spec_l1Rising_E : Ve.End := ⟨[⟨6, .shr, .bool, none⟩], []⟩
abbrev spec_l1Rising_a : List ASh := [.val (.list I), .val I, .val I]
abbrev spec_l1Rising_o : List OSh := []
abbrev spec_l1Rising_O0 : Out := .or .ret spec_l1Rising_J1 (.one (.ex 0) spec_l1Rising_J2)
noncomputable def spec_l1Rising_B0 : spec_l1Rising_J0.P → Option (spec_l1Rising_J0.P ⊕ spec_l1Rising_O0.P)
  | ((l, lo, hi, i, ()), ()) => bif (decide (i < (List.length l : Int))) then (guardB (inb i (List.length l)) (match spec_l1In ((List.getD l (Int.toNat i) (0 : Int)), lo, hi, ()) () with | some ((r, ()), ()) => (bif (!r) then (some (.inr (.inl ((false, ()), ())))) else (bif (decide ((0 : Int) < i)) then (guardB (inb (w64 (i - (1 : Int))) (List.length l)) (guardB (inb i (List.length l)) (bif (decide ((List.getD l (Int.toNat i) (0 : Int)) ≤ (List.getD l (Int.toNat (w64 (i - (1 : Int)))) (0 : Int)))) then (some (.inr (.inl ((false, ()), ())))) else (some (.inl ((l, lo, hi, (w64 (i + (1 : Int))), ()), ())))))) else (some (.inl ((l, lo, hi, (w64 (i + (1 : Int))), ()), ()))))) | none => none)) else (some (.inr (.inr ((), ()))))
noncomputable def spec_l1Rising : argP spec_l1Rising_a → obP (extObs 0 spec_l1Rising_o) → Option spec_l1Rising_E.P
  | (l, lo, hi, ()), () => match loopO spec_l1Rising_B0 ((l, lo, hi, (0 : Int), ()), ()) with | some (.inl ((t6, ()), ())) => some ((t6, ()), ()) | some (.inr ((), ())) => some ((true, ()), ()) | none => none
noncomputable def spec_l1Rising_x : Cx := ⟨tab, spec_l2Near_e, fun _ _ => 0, fun _ => false, [(20, 0), (20, 1), (20, 2), (20, 3)], []⟩
noncomputable def c209 : Code := bodyOf Tryz.f209
noncomputable def spec_l1Rising_A : Ann := .seq .nil (.seq (.seq .nil (.loop spec_l1Rising_J0 spec_l1Rising_O0 spec_l1Rising_B0 (.seq .nil (.seq (.seq (.draw [(0, .flo), (1, .flo), (2, .flo), (3, .flo), (4, .flo), (5, .flo), (6, .sole), (7, .flo), (8, .flo), (9, .flo), (10, .flo), (11, .flo), (12, .flo), (13, .flo), (14, .flo), (15, .flo), (17, .flo), (18, .flo), (19, .flo), (16, .qui), (20, .qui), (21, .flo), (22, .flo), (23, .flo)]) .nil) .nil)))) .nil)
theorem spec_l1Rising_r0 (p : spec_l1Rising_J0.P) : run spec_l1Rising_x (subc [1, 0, 1, 0, 0] c209) (.seq .nil (.seq (.seq (.draw [(0, .flo), (1, .flo), (2, .flo), (3, .flo), (4, .flo), (5, .flo), (6, .sole), (7, .flo), (8, .flo), (9, .flo), (10, .flo), (11, .flo), (12, .flo), (13, .flo), (14, .flo), (15, .flo), (17, .flo), (18, .flo), (19, .flo), (16, .qui), (20, .qui), (21, .flo), (22, .flo), (23, .flo)]) .nil) .nil)) (spec_l1Rising_J0.S p) (leaf spec_l1Rising_J0 spec_l1Rising_O0) = spec_l1Rising_B0 p := by kernel_rfl
noncomputable def spec_l1Rising_D : Ve.Fn := ⟨209, spec_l1Rising_a, spec_l1Rising_o, spec_l1Rising_E, spec_l1Rising⟩
theorem spec_l1Rising_w : Walk Tryz.prog spec_l1Rising_x spec_l1Rising_D Tryz.f209 c209 38 spec_l1Rising_A :=
  ⟨⟨Tryz.func209, by kernel_rfl, by kernel_rfl, by kernel_rfl, by decide, by kernel_rfl, Nat.le_of_ble_eq_true (by kernel_rfl)⟩, by kernel_rfl, by kernel_rfl, by kernel_rfl, kcast (by kernel_rfl) (⟨spec_l1Rising_r0, trivial⟩ : (∀ p, run spec_l1Rising_x (subc [1, 0, 1, 0, 0] c209) (.seq .nil (.seq (.seq (.draw [(0, .flo), (1, .flo), (2, .flo), (3, .flo), (4, .flo), (5, .flo), (6, .sole), (7, .flo), (8, .flo), (9, .flo), (10, .flo), (11, .flo), (12, .flo), (13, .flo), (14, .flo), (15, .flo), (17, .flo), (18, .flo), (19, .flo), (16, .qui), (20, .qui), (21, .flo), (22, .flo), (23, .flo)]) .nil) .nil)) (spec_l1Rising_J0.S p) (leaf spec_l1Rising_J0 spec_l1Rising_O0) = spec_l1Rising_B0 p) ∧ True), by kernel_rfl, fun x y => by kernel_rfl⟩
theorem spec_l1Rising_s : spec_l1Rising_D.Says Tryz.prog := spec_l1Rising_w.says follows tabOk spec_l2Near_e_ok
noncomputable def spec_l1Rising_e : Env := more spec_l2Near_e spec_l1Rising_D
theorem spec_l1Rising_e_ok : EnvOk Tryz.prog spec_l1Rising_e := more_ok spec_l2Near_e_ok spec_l1Rising_s
/-! loop.example/g01128/spec.l2Set -/
abbrev spec_l2Set_E : Ve.End := ⟨[⟨4, .shr, .bool, none⟩], []⟩
abbrev spec_l2Set_a : List ASh := [.val (.prod I (.list (.prod I I))), .val (.list I)]
abbrev spec_l2Set_o : List OSh := []
noncomputable def spec_l2Set : argP spec_l2Set_a → obP (extObs 0 spec_l2Set_o) → Option spec_l2Set_E.P
  | (g, set, ()), () => match spec_l1Rising (set, (0 : Int), (w64 (g.1 - (1 : Int))), ()) () with | some ((r, ()), ()) => some ((r, ()), ()) | none => none
noncomputable def spec_l2Set_x : Cx := ⟨tab, spec_l1Rising_e, fun _ _ => 0, fun _ => false, [(9, 0), (9, 1), (9, 2), (9, 3)], [(2, 0)]⟩
noncomputable def c160 : Code := bodyOf Tryz.f160
noncomputable def spec_l2Set_A : Ann := .nil
noncomputable def spec_l2Set_D : Ve.Fn := ⟨160, spec_l2Set_a, spec_l2Set_o, spec_l2Set_E, spec_l2Set⟩
theorem spec_l2Set_w : Walk Tryz.prog spec_l2Set_x spec_l2Set_D Tryz.f160 c160 10 spec_l2Set_A :=
  ⟨⟨Tryz.func160, by kernel_rfl, by kernel_rfl, by kernel_rfl, by decide, by kernel_rfl, Nat.le_of_ble_eq_true (by kernel_rfl)⟩, by kernel_rfl, by kernel_rfl, by kernel_rfl, kcast (by kernel_rfl) trivial, by kernel_rfl, fun x y => by kernel_rfl⟩
theorem spec_l2Set_s : spec_l2Set_D.Says Tryz.prog := spec_l2Set_w.says follows tabOk spec_l1Rising_e_ok
noncomputable def spec_l2Set_e : Env := more spec_l1Rising_e spec_l2Set_D
theorem spec_l2Set_e_ok : EnvOk Tryz.prog spec_l2Set_e := more_ok spec_l1Rising_e_ok spec_l2Set_s
/-! loop.example/g01128/spec.l3Free -/
abbrev spec_l3Free_J0 : Tpl := ⟨[(1, .val (.list I)), (2, .cst (.prod I (.list (.prod I I)))), (5, .val I), (6, .val I)], [], []⟩
abbrev spec_l3Free_J1 : Tpl := ⟨[(4, .val .bool)], [], []⟩
abbrev spec_l3Free_J2 : Tpl := ⟨[(1, .val (.list I)), (2, .cst (.prod I (.list (.prod I I)))), (5, .val I)], [], []⟩
abbrev spec_l3Free_J3 : Tpl := ⟨[(1, .val (.list I)), (2, .cst (.prod I (.list (.prod I I))))], [], []⟩
abbrev spec_l3Free_E : Ve.End := ⟨[⟨4, .shr, .bool, none⟩], []⟩
abbrev spec_l3Free_a : List ASh := [.val (.prod I (.list (.prod I I))), .val (.list I)]
abbrev spec_l3Free_o : List OSh := []
abbrev spec_l3Free_O0 : Out := .or .ret spec_l3Free_J1 (.one (.ex 2) spec_l3Free_J2)
noncomputable def spec_l3Free_B0 : spec_l3Free_J0.P → Option (spec_l3Free_J0.P ⊕ spec_l3Free_O0.P)
  | ((set, g, i, k, ()), ()) => bif (decide (k < i)) then (guardB (inb k (List.length set)) (guardB (inb i (List.length set)) (match spec_l2Near (g, (List.getD set (Int.toNat k) (0 : Int)), (List.getD set (Int.toNat i) (0 : Int)), ()) () with | some ((r, ()), ()) => (bif r then (some (.inr (.inl ((false, ()), ())))) else (some (.inl ((set, g, i, (w64 (k + (1 : Int))), ()), ())))) | none => none))) else (some (.inr (.inr ((set, g, i, ()), ()))))
abbrev spec_l3Free_O1 : Out := .or .ret spec_l3Free_J1 (.one (.ex 0) spec_l3Free_J3)
noncomputable def spec_l3Free_B1 : spec_l3Free_J2.P → Option (spec_l3Free_J2.P ⊕ spec_l3Free_O1.P)
  | ((set, g, i, ()), ()) => bif (decide (i < (List.length set : Int))) then (match loopO spec_l3Free_B0 ((set, g, i, (0 : Int), ()), ()) with | some (.inl ((t4, ()), ())) => some (.inr (.inl ((t4, ()), ()))) | some (.inr ((set2, g2, i2, ()), ())) => some (.inl ((set2, g2, (w64 (i2 + (1 : Int))), ()), ())) | none => none) else (some (.inr (.inr ((set, g, ()), ()))))
noncomputable def spec_l3Free : argP spec_l3Free_a → obP (extObs 0 spec_l3Free_o) → Option spec_l3Free_E.P
  | (g, set, ()), () => match loopO spec_l3Free_B1 ((set, g, (0 : Int), ()), ()) with | some (.inl ((t4, ()), ())) => some ((t4, ()), ()) | some (.inr ((set2, g2, ()), ())) => (match spec_l2Set (g2, set2, ()) () with | some ((r, ()), ()) => some ((r, ()), ()) | none => none) | none => none
noncomputable def spec_l3Free_x : Cx := ⟨tab, spec_l2Set_e, fun _ _ => 0, fun _ => false, [(27, 0), (27, 1), (27, 2), (27, 3), (30, 0), (30, 1), (30, 2), (30, 3)], [(2, 0)]⟩
noncomputable def c106 : Code := bodyOf Tryz.f106
noncomputable def spec_l3Free_A : Ann := .seq .nil (.seq (.seq .nil (.loop spec_l3Free_J2 spec_l3Free_O1 spec_l3Free_B1 (.seq .nil (.seq (.seq .nil (.loop spec_l3Free_J0 spec_l3Free_O0 spec_l3Free_B0 (.seq .nil (.seq (.seq (.draw [(0, .flo), (1, .flo), (2, .flo), (3, .flo), (4, .flo), (5, .flo), (6, .flo), (7, .flo), (8, .flo), (9, .sole)]) .nil) .nil)))) .nil)))) .nil)
theorem spec_l3Free_r0 (p : spec_l3Free_J2.P) : run spec_l3Free_x (subc [1, 0, 1, 0, 0] c106) (.seq .nil (.seq (.seq .nil (.loop spec_l3Free_J0 spec_l3Free_O0 spec_l3Free_B0 (.seq .nil (.seq (.seq (.draw [(0, .flo), (1, .flo), (2, .flo), (3, .flo), (4, .flo), (5, .flo), (6, .flo), (7, .flo), (8, .flo), (9, .sole)]) .nil) .nil)))) .nil)) (spec_l3Free_J2.S p) (leaf spec_l3Free_J2 spec_l3Free_O1) = spec_l3Free_B1 p := by kernel_rfl
theorem spec_l3Free_r1 (p : spec_l3Free_J0.P) : run spec_l3Free_x (subc [1, 0, 1, 0, 0, 1, 0, 0, 1, 0, 0] c106) (.seq .nil (.seq (.seq (.draw [(0, .flo), (1, .flo), (2, .flo), (3, .flo), (4, .flo), (5, .flo), (6, .flo), (7, .flo), (8, .flo), (9, .sole)]) .nil) .nil)) (spec_l3Free_J0.S p) (leaf spec_l3Free_J0 spec_l3Free_O0) = spec_l3Free_B0 p := by kernel_rfl
noncomputable def spec_l3Free_D : Ve.Fn := ⟨106, spec_l3Free_a, spec_l3Free_o, spec_l3Free_E, spec_l3Free⟩
theorem spec_l3Free_w : Walk Tryz.prog spec_l3Free_x spec_l3Free_D Tryz.f106 c106 31 spec_l3Free_A :=
  ⟨⟨Tryz.func106, by kernel_rfl, by kernel_rfl, by kernel_rfl, by decide, by kernel_rfl, Nat.le_of_ble_eq_true (by kernel_rfl)⟩, by kernel_rfl, by kernel_rfl, by kernel_rfl, kcast (by kernel_rfl) (⟨spec_l3Free_r0, spec_l3Free_r1, trivial⟩ : (∀ p, run spec_l3Free_x (subc [1, 0, 1, 0, 0] c106) (.seq .nil (.seq (.seq .nil (.loop spec_l3Free_J0 spec_l3Free_O0 spec_l3Free_B0 (.seq .nil (.seq (.seq (.draw [(0, .flo), (1, .flo), (2, .flo), (3, .flo), (4, .flo), (5, .flo), (6, .flo), (7, .flo), (8, .flo), (9, .sole)]) .nil) .nil)))) .nil)) (spec_l3Free_J2.S p) (leaf spec_l3Free_J2 spec_l3Free_O1) = spec_l3Free_B1 p) ∧ (∀ p, run spec_l3Free_x (subc [1, 0, 1, 0, 0, 1, 0, 0, 1, 0, 0] c106) (.seq .nil (.seq (.seq (.draw [(0, .flo), (1, .flo), (2, .flo), (3, .flo), (4, .flo), (5, .flo), (6, .flo), (7, .flo), (8, .flo), (9, .sole)]) .nil) .nil)) (spec_l3Free_J0.S p) (leaf spec_l3Free_J0 spec_l3Free_O0) = spec_l3Free_B0 p) ∧ True), by kernel_rfl, fun x y => by kernel_rfl⟩
theorem spec_l3Free_s : spec_l3Free_D.Says Tryz.prog := spec_l3Free_w.says follows tabOk spec_l2Set_e_ok
noncomputable def spec_l3Free_e : Env := more spec_l2Set_e spec_l3Free_D
theorem spec_l3Free_e_ok : EnvOk Tryz.prog spec_l3Free_e := more_ok spec_l2Set_e_ok spec_l3Free_s
/-! loop.example/g01128/spec.l5Proper -/
abbrev spec_l5Proper_J0 : Tpl := ⟨[(1, .val I), (2, .val (.list I)), (3, .cst (.prod I (.list (.prod I I)))), (7, .val I)], [], []⟩
abbrev spec_l5Proper_J1 : Tpl := ⟨[(6, .val .bool)], [], []⟩
abbrev spec_l5Proper_J2 : Tpl := ⟨[(2, .val (.list I)), (3, .cst (.prod I (.list (.prod I I))))], [], []⟩
abbrev spec_l5Proper_J3 : Tpl := ⟨[(2, .val (.list I)), (3, .cst (.prod I (.list (.prod I I)))), (8, .val I)], [], []⟩
abbrev spec_l5Proper_J4 : Tpl := ⟨[], [], []⟩
abbrev spec_l5Proper_E : Ve.End := ⟨[⟨6, .shr, .bool, none⟩], []⟩
abbrev spec_l5Proper_a : List ASh := [.val (.prod I (.list (.prod I I))), .val I, .val (.list I)]
abbrev spec_l5Proper_o : List OSh := []
abbrev spec_l5Proper_O0 : Out := .or .ret spec_l5Proper_J1 (.one (.ex 0) spec_l5Proper_J2)
noncomputable def spec_l5Proper_B0 : spec_l5Proper_J0.P → Option (spec_l5Proper_J0.P ⊕ spec_l5Proper_O0.P)
  | ((k, colours, g, x, ()), ()) => bif (decide (x < g.1)) then (guardB (inb x (List.length colours)) (match spec_l1In ((List.getD colours (Int.toNat x) (0 : Int)), (0 : Int), (w64 (k - (1 : Int))), ()) () with | some ((r, ()), ()) => (bif (!r) then (some (.inr (.inl ((false, ()), ())))) else (some (.inl ((k, colours, g, (w64 (x + (1 : Int))), ()), ())))) | none => none)) else (some (.inr (.inr ((colours, g, ()), ()))))
abbrev spec_l5Proper_O1 : Out := .or .ret spec_l5Proper_J1 (.one (.ex 2) spec_l5Proper_J4)
noncomputable def spec_l5Proper_B1 : spec_l5Proper_J3.P → Option (spec_l5Proper_J3.P ⊕ spec_l5Proper_O1.P)
  | ((colours, g, i, ()), ()) => bif (decide (i < (List.length g.2 : Int))) then (guardB (inb i (List.length g.2)) (guardB (inb ((List.getD g.2 (Int.toNat i) ((0 : Int), (0 : Int))).1) (List.length colours)) (guardB (inb i (List.length g.2)) (guardB (inb ((List.getD g.2 (Int.toNat i) ((0 : Int), (0 : Int))).2) (List.length colours)) (bif ((List.getD colours (Int.toNat ((List.getD g.2 (Int.toNat i) ((0 : Int), (0 : Int))).1)) (0 : Int)) == (List.getD colours (Int.toNat ((List.getD g.2 (Int.toNat i) ((0 : Int), (0 : Int))).2)) (0 : Int))) then (some (.inr (.inl ((false, ()), ())))) else (some (.inl ((colours, g, (w64 (i + (1 : Int))), ()), ())))))))) else (some (.inr (.inr ((), ()))))
noncomputable def spec_l5Proper : argP spec_l5Proper_a → obP (extObs 0 spec_l5Proper_o) → Option spec_l5Proper_E.P
  | (g, k, colours, ()), () => bif ((List.length colours : Int) != g.1) then (some ((false, ()), ())) else (match loopO spec_l5Proper_B0 ((k, colours, g, (0 : Int), ()), ()) with | some (.inl ((t6, ()), ())) => some ((t6, ()), ()) | some (.inr ((colours2, g2, ()), ())) => (match loopO spec_l5Proper_B1 ((colours2, g2, (0 : Int), ()), ()) with | some (.inl ((t6_2, ()), ())) => some ((t6_2, ()), ()) | some (.inr ((), ())) => some ((true, ()), ()) | none => none) | none => none)
noncomputable def spec_l5Proper_x : Cx := ⟨tab, spec_l3Free_e, fun _ _ => 0, fun _ => false, [(26, 0), (26, 1), (26, 2), (26, 3)], [(3, 0)]⟩
noncomputable def c108 : Code := bodyOf Tryz.f108
noncomputable def spec_l5Proper_A : Ann := .seq .nil (.seq .nil (.seq (.seq .nil (.loop spec_l5Proper_J0 spec_l5Proper_O0 spec_l5Proper_B0 .nil)) (.seq (.seq .nil (.loop spec_l5Proper_J3 spec_l5Proper_O1 spec_l5Proper_B1 (.seq .nil (.seq (.seq (.draw [(0, .flo), (1, .flo), (2, .flo), (3, .flo), (4, .flo), (5, .flo), (6, .flo), (7, .flo), (8, .flo), (9, .flo), (10, .flo), (11, .flo), (12, .flo), (13, .flo), (14, .flo), (15, .flo), (16, .flo), (17, .flo), (18, .flo)]) .nil) .nil)))) .nil)))
theorem spec_l5Proper_r0 (p : spec_l5Proper_J0.P) : run spec_l5Proper_x (subc [1, 1, 0, 1, 0, 0] c108) .nil (spec_l5Proper_J0.S p) (leaf spec_l5Proper_J0 spec_l5Proper_O0) = spec_l5Proper_B0 p := by kernel_rfl
theorem spec_l5Proper_r1 (p : spec_l5Proper_J3.P) : run spec_l5Proper_x (subc [1, 1, 1, 0, 1, 0, 0] c108) (.seq .nil (.seq (.seq (.draw [(0, .flo), (1, .flo), (2, .flo), (3, .flo), (4, .flo), (5, .flo), (6, .flo), (7, .flo), (8, .flo), (9, .flo), (10, .flo), (11, .flo), (12, .flo), (13, .flo), (14, .flo), (15, .flo), (16, .flo), (17, .flo), (18, .flo)]) .nil) .nil)) (spec_l5Proper_J3.S p) (leaf spec_l5Proper_J3 spec_l5Proper_O1) = spec_l5Proper_B1 p := by kernel_rfl
noncomputable def spec_l5Proper_D : Ve.Fn := ⟨108, spec_l5Proper_a, spec_l5Proper_o, spec_l5Proper_E, spec_l5Proper⟩
theorem spec_l5Proper_w : Walk Tryz.prog spec_l5Proper_x spec_l5Proper_D Tryz.f108 c108 54 spec_l5Proper_A :=
  ⟨⟨Tryz.func108, by kernel_rfl, by kernel_rfl, by kernel_rfl, by decide, by kernel_rfl, Nat.le_of_ble_eq_true (by kernel_rfl)⟩, by kernel_rfl, by kernel_rfl, by kernel_rfl, kcast (by kernel_rfl) (⟨spec_l5Proper_r0, spec_l5Proper_r1, trivial⟩ : (∀ p, run spec_l5Proper_x (subc [1, 1, 0, 1, 0, 0] c108) .nil (spec_l5Proper_J0.S p) (leaf spec_l5Proper_J0 spec_l5Proper_O0) = spec_l5Proper_B0 p) ∧ (∀ p, run spec_l5Proper_x (subc [1, 1, 1, 0, 1, 0, 0] c108) (.seq .nil (.seq (.seq (.draw [(0, .flo), (1, .flo), (2, .flo), (3, .flo), (4, .flo), (5, .flo), (6, .flo), (7, .flo), (8, .flo), (9, .flo), (10, .flo), (11, .flo), (12, .flo), (13, .flo), (14, .flo), (15, .flo), (16, .flo), (17, .flo), (18, .flo)]) .nil) .nil)) (spec_l5Proper_J3.S p) (leaf spec_l5Proper_J3 spec_l5Proper_O1) = spec_l5Proper_B1 p) ∧ True), by kernel_rfl, fun x y => by kernel_rfl⟩
theorem spec_l5Proper_s : spec_l5Proper_D.Says Tryz.prog := spec_l5Proper_w.says follows tabOk spec_l3Free_e_ok
noncomputable def spec_l5Proper_e : Env := more spec_l3Free_e spec_l5Proper_D
theorem spec_l5Proper_e_ok : EnvOk Tryz.prog spec_l5Proper_e := more_ok spec_l3Free_e_ok spec_l5Proper_s
/-! loop.example/g01128/spec.l12Good -/
abbrev spec_l12Good_E : Ve.End := ⟨[⟨2, .shr, .bool, none⟩], []⟩
abbrev spec_l12Good_a : List ASh := [.val (.prod (.prod I (.list (.prod I I))) (.prod I (.prod (.list I) (.prod (.list I) (.prod (.list I) I)))))]
abbrev spec_l12Good_o : List OSh := []
noncomputable def spec_l12Good : argP spec_l12Good_a → obP (extObs 0 spec_l12Good_o) → Option spec_l12Good_E.P
  | (s, ()), () => match spec_l5Ask (s.1, s.2.1, ()) () with | some ((r, ()), ()) => (bif (!r) then (some ((false, ()), ())) else (match spec_l9Board (s.1, s.2.2.2.2.1, ()) () with | some ((r2, ()), ()) => (bif (!r2) then (some ((false, ()), ())) else (match spec_l3Free (s.1, s.2.2.1, ()) () with | some ((r3, ()), ()) => (bif (!r3) then (some ((false, ()), ())) else (match spec_l1In (s.2.2.2.2.2, (0 : Int), (1000 : Int), ()) () with | some ((r4, ()), ()) => (bif (!r4) then (some ((false, ()), ())) else (bif ((List.length s.2.2.2.1 : Int) == (0 : Int)) then (some ((true, ()), ())) else (match spec_l5Proper (s.1, s.2.1, s.2.2.2.1, ()) () with | some ((r5, ()), ()) => some ((r5, ()), ()) | none => none))) | none => none)) | none => none)) | none => none)) | none => none
noncomputable def spec_l12Good_x : Cx := ⟨tab, spec_l5Proper_e, fun _ _ => 0, fun _ => false, [(7, 0), (7, 1), (7, 2), (7, 3), (14, 0), (14, 1), (14, 2), (14, 3), (22, 0), (22, 1), (22, 2), (22, 3), (28, 0), (28, 1), (28, 2), (28, 3), (42, 0), (42, 1), (42, 2), (42, 3)], [(1, 0)]⟩
noncomputable def c56 : Code := bodyOf Tryz.f56
noncomputable def spec_l12Good_A : Ann := .nil
noncomputable def spec_l12Good_D : Ve.Fn := ⟨56, spec_l12Good_a, spec_l12Good_o, spec_l12Good_E, spec_l12Good⟩
theorem spec_l12Good_w : Walk Tryz.prog spec_l12Good_x spec_l12Good_D Tryz.f56 c56 44 spec_l12Good_A :=
  ⟨⟨Tryz.func56, by kernel_rfl, by kernel_rfl, by kernel_rfl, by decide, by kernel_rfl, Nat.le_of_ble_eq_true (by kernel_rfl)⟩, by kernel_rfl, by kernel_rfl, by kernel_rfl, kcast (by kernel_rfl) trivial, by kernel_rfl, fun x y => by kernel_rfl⟩
theorem spec_l12Good_s : spec_l12Good_D.Says Tryz.prog := spec_l12Good_w.says follows tabOk spec_l5Proper_e_ok
noncomputable def spec_l12Good_e : Env := more spec_l5Proper_e spec_l12Good_D
theorem spec_l12Good_e_ok : EnvOk Tryz.prog spec_l12Good_e := more_ok spec_l5Proper_e_ok spec_l12Good_s
/-! loop.example/g01128/spec.l1Own -/
abbrev spec_l1Own_E : Ve.End := ⟨[⟨2, (.own .shr), (.list I), none⟩], []⟩
abbrev spec_l1Own_a : List ASh := [.val (.list I)]
abbrev spec_l1Own_o : List OSh := []
noncomputable def spec_l1Own : argP spec_l1Own_a → obP (extObs 0 spec_l1Own_o) → Option spec_l1Own_E.P
  | (l, ()), () => guardB (decide ((List.length ([] : (List Int)) + List.length l) * 8 ≤ 70368744177664)) (some (((([] : (List Int)) ++ l), ()), ()))
noncomputable def spec_l1Own_x : Cx := ⟨tab, spec_l12Good_e, fun _ _ => 0, fun _ => false, [], []⟩
noncomputable def c94 : Code := bodyOf Tryz.f94
noncomputable def spec_l1Own_A : Ann := .nil
noncomputable def spec_l1Own_D : Ve.Fn := ⟨94, spec_l1Own_a, spec_l1Own_o, spec_l1Own_E, spec_l1Own⟩
theorem spec_l1Own_w : Walk Tryz.prog spec_l1Own_x spec_l1Own_D Tryz.f94 c94 6 spec_l1Own_A :=
  ⟨⟨Tryz.func94, by kernel_rfl, by kernel_rfl, by kernel_rfl, by decide, by kernel_rfl, Nat.le_of_ble_eq_true (by kernel_rfl)⟩, by kernel_rfl, by kernel_rfl, by kernel_rfl, kcast (by kernel_rfl) trivial, by kernel_rfl, fun x y => by kernel_rfl⟩
theorem spec_l1Own_s : spec_l1Own_D.Says Tryz.prog := spec_l1Own_w.says follows tabOk spec_l12Good_e_ok
noncomputable def spec_l1Own_e : Env := more spec_l12Good_e spec_l1Own_D
theorem spec_l1Own_e_ok : EnvOk Tryz.prog spec_l1Own_e := more_ok spec_l12Good_e_ok spec_l1Own_s
/-! loop.example/g01128/spec.l12Own -/
abbrev spec_l12Own_E : Ve.End := ⟨[⟨2, (.prod (.prod .shr (.own .shr)) (.prod .shr (.prod (.own .shr) (.prod (.own .shr) (.prod (.own .shr) .shr))))), (.prod (.prod I (.list (.prod I I))) (.prod I (.prod (.list I) (.prod (.list I) (.prod (.list I) I))))), some 31⟩], []⟩
abbrev spec_l12Own_a : List ASh := [.val (.prod (.prod I (.list (.prod I I))) (.prod I (.prod (.list I) (.prod (.list I) (.prod (.list I) I)))))]
abbrev spec_l12Own_o : List OSh := []
noncomputable def spec_l12Own : argP spec_l12Own_a → obP (extObs 0 spec_l12Own_o) → Option spec_l12Own_E.P
  | (s, ()), () => guardB (decide ((List.length ([] : (List (Int × Int))) + List.length s.1.2) * 16 ≤ 70368744177664)) (match spec_l1Own (s.2.2.1, ()) () with | some ((r, ()), ()) => (match spec_l1Own (s.2.2.2.1, ()) () with | some ((r2, ()), ()) => (match spec_l1Own (s.2.2.2.2.1, ()) () with | some ((r3, ()), ()) => some ((((s.1.1, (([] : (List (Int × Int))) ++ s.1.2)), (s.2.1, (r, (r2, (r3, s.2.2.2.2.2))))), ()), ()) | none => none) | none => none) | none => none)
noncomputable def spec_l12Own_x : Cx := ⟨tab, spec_l1Own_e, fun _ _ => 0, fun _ => false, [(8, 0), (17, 0), (17, 1), (17, 2), (17, 3), (21, 0), (21, 1), (21, 2), (21, 3), (25, 0), (25, 1), (25, 2), (25, 3)], [(1, 0)]⟩
noncomputable def c57 : Code := bodyOf Tryz.f57
noncomputable def spec_l12Own_A : Ann := .seq .nil (.seq .nil (.seq (.draw [(0, .flo), (1, .flo), (2, .flo), (4, .flo), (5, .flo), (6, .flo), (3, .sole), (7, .sole), (8, .flo), (9, .flo), (10, .sole)]) .nil))
noncomputable def spec_l12Own_D : Ve.Fn := ⟨57, spec_l12Own_a, spec_l12Own_o, spec_l12Own_E, spec_l12Own⟩
theorem spec_l12Own_w : Walk Tryz.prog spec_l12Own_x spec_l12Own_D Tryz.f57 c57 28 spec_l12Own_A :=
  ⟨⟨Tryz.func57, by kernel_rfl, by kernel_rfl, by kernel_rfl, by decide, by kernel_rfl, Nat.le_of_ble_eq_true (by kernel_rfl)⟩, by kernel_rfl, by kernel_rfl, by kernel_rfl, kcast (by kernel_rfl) trivial, by kernel_rfl, fun x y => by kernel_rfl⟩
theorem spec_l12Own_s : spec_l12Own_D.Says Tryz.prog := spec_l12Own_w.says follows tabOk spec_l1Own_e_ok
noncomputable def spec_l12Own_e : Env := more spec_l1Own_e spec_l12Own_D
theorem spec_l12Own_e_ok : EnvOk Tryz.prog spec_l12Own_e := more_ok spec_l1Own_e_ok spec_l12Own_s
/-! loop.example/g01128/spec.NewConsole -/
abbrev spec_NewConsole_E : Ve.End := ⟨[⟨2, (.prod (.prod (.prod .shr (.own .shr)) (.prod .shr (.prod (.own .shr) (.prod (.own .shr) (.prod (.own .shr) .shr))))) .shr), (.prod (.prod (.prod I (.list (.prod I I))) (.prod I (.prod (.list I) (.prod (.list I) (.prod (.list I) I))))) (.prod .str (.prod .str I))), some 35⟩, ⟨3, .shr, .bool, none⟩], []⟩
abbrev spec_NewConsole_a : List ASh := [.val (.prod (.prod I (.list (.prod I I))) (.prod I (.prod (.list I) (.prod (.list I) (.prod (.list I) I)))))]
abbrev spec_NewConsole_o : List OSh := []
noncomputable def spec_NewConsole : argP spec_NewConsole_a → obP (extObs 0 spec_NewConsole_o) → Option spec_NewConsole_E.P
  | (s, ()), () => match spec_l12Good (s, ()) () with | some ((r, ()), ()) => (bif (!r) then (some ((((((0 : Int), ([] : (List (Int × Int)))), ((0 : Int), (([] : (List Int)), (([] : (List Int)), (([] : (List Int)), (0 : Int)))))), ((⟨#[]⟩ : ByteArray), ((⟨#[]⟩ : ByteArray), (0 : Int)))), false, ()), ())) else (match spec_l12Own (s, ()) () with | some ((r2, ()), ()) => some (((((r2.1.1, r2.1.2), (r2.2.1, (r2.2.2.1, (r2.2.2.2.1, (r2.2.2.2.2.1, r2.2.2.2.2.2))))), ((⟨#[]⟩ : ByteArray), ((⟨#[]⟩ : ByteArray), (0 : Int)))), true, ()), ()) | none => none)) | none => none
noncomputable def spec_NewConsole_x : Cx := ⟨tab, spec_l12Own_e, fun _ _ => 0, fun _ => false, [(5, 0), (5, 1), (5, 2), (5, 3)], [(1, 0)]⟩
noncomputable def c11 : Code := bodyOf Tryz.f11
noncomputable def spec_NewConsole_A : Ann := .nil
noncomputable def spec_NewConsole_D : Ve.Fn := ⟨11, spec_NewConsole_a, spec_NewConsole_o, spec_NewConsole_E, spec_NewConsole⟩
theorem spec_NewConsole_w : Walk Tryz.prog spec_NewConsole_x spec_NewConsole_D Tryz.f11 c11 11 spec_NewConsole_A :=
  ⟨⟨Tryz.func11, by kernel_rfl, by kernel_rfl, by kernel_rfl, by decide, by kernel_rfl, Nat.le_of_ble_eq_true (by kernel_rfl)⟩, by kernel_rfl, by kernel_rfl, by kernel_rfl, kcast (by kernel_rfl) trivial, by kernel_rfl, fun x y => by kernel_rfl⟩
theorem spec_NewConsole_s : spec_NewConsole_D.Says Tryz.prog := spec_NewConsole_w.says follows tabOk spec_l12Own_e_ok
noncomputable def spec_NewConsole_e : Env := more spec_l12Own_e spec_NewConsole_D
theorem spec_NewConsole_e_ok : EnvOk Tryz.prog spec_NewConsole_e := more_ok spec_l12Own_e_ok spec_NewConsole_s
/-! loop.example/g01128/impl.between -/
abbrev impl_between_E : Ve.End := ⟨[⟨6, .shr, .bool, none⟩], []⟩
abbrev impl_between_a : List ASh := [.val I, .val I, .val I]
abbrev impl_between_o : List OSh := []
noncomputable def impl_between : argP impl_between_a → obP (extObs 0 impl_between_o) → Option impl_between_E.P
  | (n, low, high, ()), () => bif (decide (low ≤ n)) then (some (((decide (n ≤ high)), ()), ())) else (some ((false, ()), ()))
noncomputable def impl_between_x : Cx := ⟨tab, spec_NewConsole_e, fun _ _ => 0, fun _ => false, [], []⟩
noncomputable def c70 : Code := bodyOf Tryz.f70
noncomputable def impl_between_A : Ann := .nil
noncomputable def impl_between_D : Ve.Fn := ⟨70, impl_between_a, impl_between_o, impl_between_E, impl_between⟩
theorem impl_between_w : Walk Tryz.prog impl_between_x impl_between_D Tryz.f70 c70 15 impl_between_A :=
  ⟨⟨Tryz.func70, by kernel_rfl, by kernel_rfl, by kernel_rfl, by decide, by kernel_rfl, Nat.le_of_ble_eq_true (by kernel_rfl)⟩, by kernel_rfl, by kernel_rfl, by kernel_rfl, kcast (by kernel_rfl) trivial, by kernel_rfl, fun x y => by kernel_rfl⟩
theorem impl_between_s : impl_between_D.Says Tryz.prog := impl_between_w.says follows tabOk spec_NewConsole_e_ok
noncomputable def impl_between_e : Env := more spec_NewConsole_e impl_between_D
theorem impl_between_e_ok : EnvOk Tryz.prog impl_between_e := more_ok spec_NewConsole_e_ok impl_between_s
/-! cmp.isNaN[int] -/
abbrev cmp_isNaN_int_E : Ve.End := ⟨[⟨2, .shr, .bool, none⟩], []⟩
abbrev cmp_isNaN_int_a : List ASh := [.val I]
abbrev cmp_isNaN_int_o : List OSh := []
noncomputable def cmp_isNaN_int : argP cmp_isNaN_int_a → obP (extObs 0 cmp_isNaN_int_o) → Option cmp_isNaN_int_E.P
  | (x, ()), () => some (((x != x), ()), ())
noncomputable def cmp_isNaN_int_x : Cx := ⟨tab, impl_between_e, fun _ _ => 0, fun _ => false, [], []⟩
noncomputable def c234 : Code := bodyOf Tryz.f234
noncomputable def cmp_isNaN_int_A : Ann := .nil
noncomputable def cmp_isNaN_int_D : Ve.Fn := ⟨234, cmp_isNaN_int_a, cmp_isNaN_int_o, cmp_isNaN_int_E, cmp_isNaN_int⟩
theorem cmp_isNaN_int_w : Walk Tryz.prog cmp_isNaN_int_x cmp_isNaN_int_D Tryz.f234 c234 6 cmp_isNaN_int_A :=
  ⟨⟨Tryz.func234, by kernel_rfl, by kernel_rfl, by kernel_rfl, by decide, by kernel_rfl, Nat.le_of_ble_eq_true (by kernel_rfl)⟩, by kernel_rfl, by kernel_rfl, by kernel_rfl, kcast (by kernel_rfl) trivial, by kernel_rfl, fun x y => by kernel_rfl⟩
theorem cmp_isNaN_int_s : cmp_isNaN_int_D.Says Tryz.prog := cmp_isNaN_int_w.says follows tabOk impl_between_e_ok
noncomputable def cmp_isNaN_int_e : Env := more impl_between_e cmp_isNaN_int_D
theorem cmp_isNaN_int_e_ok : EnvOk Tryz.prog cmp_isNaN_int_e := more_ok impl_between_e_ok cmp_isNaN_int_s
/-! cmp.Compare[int] -/
abbrev cmp_Compare_int_E : Ve.End := ⟨[⟨4, .shr, I, none⟩], []⟩
abbrev cmp_Compare_int_a : List ASh := [.val I, .val I]
abbrev cmp_Compare_int_o : List OSh := []
noncomputable def cmp_Compare_int : argP cmp_Compare_int_a → obP (extObs 0 cmp_Compare_int_o) → Option cmp_Compare_int_E.P
  | (x, y, ()), () => match cmp_isNaN_int (x, ()) () with | some ((r, ()), ()) => (match cmp_isNaN_int (y, ()) () with | some ((r2, ()), ()) => (bif r then (bif r2 then (some (((0 : Int), ()), ())) else (some (((-1 : Int), ()), ()))) else (bif r2 then (some (((1 : Int), ()), ())) else (bif (decide (x < y)) then (some (((-1 : Int), ()), ())) else (bif (decide (y < x)) then (some (((1 : Int), ()), ())) else (some (((0 : Int), ()), ())))))) | none => none) | none => none
noncomputable def cmp_Compare_int_x : Cx := ⟨tab, cmp_isNaN_int_e, fun _ _ => 0, fun _ => false, [(8, 0), (8, 1), (8, 2), (8, 3), (10, 0), (10, 1), (10, 2), (10, 3)], []⟩
noncomputable def c191 : Code := bodyOf Tryz.f191
noncomputable def cmp_Compare_int_A : Ann := .nil
noncomputable def cmp_Compare_int_D : Ve.Fn := ⟨191, cmp_Compare_int_a, cmp_Compare_int_o, cmp_Compare_int_E, cmp_Compare_int⟩
theorem cmp_Compare_int_w : Walk Tryz.prog cmp_Compare_int_x cmp_Compare_int_D Tryz.f191 c191 20 cmp_Compare_int_A :=
  ⟨⟨Tryz.func191, by kernel_rfl, by kernel_rfl, by kernel_rfl, by decide, by kernel_rfl, Nat.le_of_ble_eq_true (by kernel_rfl)⟩, by kernel_rfl, by kernel_rfl, by kernel_rfl, kcast (by kernel_rfl) trivial, by kernel_rfl, fun x y => by kernel_rfl⟩
theorem cmp_Compare_int_s : cmp_Compare_int_D.Says Tryz.prog := cmp_Compare_int_w.says follows tabOk cmp_isNaN_int_e_ok
noncomputable def cmp_Compare_int_e : Env := more cmp_isNaN_int_e cmp_Compare_int_D
theorem cmp_Compare_int_e_ok : EnvOk Tryz.prog cmp_Compare_int_e := more_ok cmp_isNaN_int_e_ok cmp_Compare_int_s
/-! cmp.Or[int] -/
abbrev cmp_Or_int_J0 : Tpl := ⟨[(3, .val I), (6, .val (.list I)), (7, .val I), (8, .val I)], [], []⟩
abbrev cmp_Or_int_J1 : Tpl := ⟨[(2, .val I)], [], []⟩
abbrev cmp_Or_int_J2 : Tpl := ⟨[(3, .val I)], [], []⟩
abbrev cmp_Or_int_E : Ve.End := ⟨[⟨2, .shr, I, none⟩], []⟩
abbrev cmp_Or_int_a : List ASh := [.val (.list I)]
abbrev cmp_Or_int_o : List OSh := []
abbrev cmp_Or_int_O0 : Out := .or .ret cmp_Or_int_J1 (.one (.ex 0) cmp_Or_int_J2)
noncomputable def cmp_Or_int_B0 : cmp_Or_int_J0.P → Option (cmp_Or_int_J0.P ⊕ cmp_Or_int_O0.P)
  | ((zero_, t6, t7, t8, ()), ()) => bif (decide (t8 < t7)) then (guardB (inb t8 (List.length t6)) (bif ((List.getD t6 (Int.toNat t8) (0 : Int)) != zero_) then (some (.inr (.inl (((List.getD t6 (Int.toNat t8) (0 : Int)), ()), ())))) else (some (.inl ((zero_, t6, t7, (w64 (t8 + (1 : Int))), ()), ()))))) else (some (.inr (.inr ((zero_, ()), ()))))
noncomputable def cmp_Or_int : argP cmp_Or_int_a → obP (extObs 0 cmp_Or_int_o) → Option cmp_Or_int_E.P
  | (vals, ()), () => match loopO cmp_Or_int_B0 (((0 : Int), vals, (List.length vals : Int), (0 : Int), ()), ()) with | some (.inl ((t2, ()), ())) => some ((t2, ()), ()) | some (.inr ((zero_, ()), ())) => some ((zero_, ()), ()) | none => none
noncomputable def cmp_Or_int_x : Cx := ⟨tab, cmp_Compare_int_e, fun _ _ => 0, fun _ => false, [], []⟩
noncomputable def c190 : Code := bodyOf Tryz.f190
noncomputable def cmp_Or_int_A : Ann := .seq .nil (.seq .nil (.seq (.seq .nil (.loop cmp_Or_int_J0 cmp_Or_int_O0 cmp_Or_int_B0 .nil)) .nil))
theorem cmp_Or_int_r0 (p : cmp_Or_int_J0.P) : run cmp_Or_int_x (subc [1, 1, 0, 1, 0, 0] c190) .nil (cmp_Or_int_J0.S p) (leaf cmp_Or_int_J0 cmp_Or_int_O0) = cmp_Or_int_B0 p := by kernel_rfl
noncomputable def cmp_Or_int_D : Ve.Fn := ⟨190, cmp_Or_int_a, cmp_Or_int_o, cmp_Or_int_E, cmp_Or_int⟩
theorem cmp_Or_int_w : Walk Tryz.prog cmp_Or_int_x cmp_Or_int_D Tryz.f190 c190 18 cmp_Or_int_A :=
  ⟨⟨Tryz.func190, by kernel_rfl, by kernel_rfl, by kernel_rfl, by decide, by kernel_rfl, Nat.le_of_ble_eq_true (by kernel_rfl)⟩, by kernel_rfl, by kernel_rfl, by kernel_rfl, kcast (by kernel_rfl) (⟨cmp_Or_int_r0, trivial⟩ : (∀ p, run cmp_Or_int_x (subc [1, 1, 0, 1, 0, 0] c190) .nil (cmp_Or_int_J0.S p) (leaf cmp_Or_int_J0 cmp_Or_int_O0) = cmp_Or_int_B0 p) ∧ True), by kernel_rfl, fun x y => by kernel_rfl⟩
theorem cmp_Or_int_s : cmp_Or_int_D.Says Tryz.prog := cmp_Or_int_w.says follows tabOk cmp_Compare_int_e_ok
noncomputable def cmp_Or_int_e : Env := more cmp_Compare_int_e cmp_Or_int_D
theorem cmp_Or_int_e_ok : EnvOk Tryz.prog cmp_Or_int_e := more_ok cmp_Compare_int_e_ok cmp_Or_int_s
/-! loop.example/g01128/impl.comparePairs -/
abbrev impl_comparePairs_E : Ve.End := ⟨[⟨4, .shr, I, none⟩], []⟩
abbrev impl_comparePairs_a : List ASh := [.val (.prod I I), .val (.prod I I)]
abbrev impl_comparePairs_o : List OSh := []
noncomputable def impl_comparePairs : argP impl_comparePairs_a → obP (extObs 0 impl_comparePairs_o) → Option impl_comparePairs_E.P
  | (a, b, ()), () => match cmp_Compare_int (a.1, b.1, ()) () with | some ((r, ()), ()) => (match cmp_Compare_int (a.2, b.2, ()) () with | some ((r2, ()), ()) => (match cmp_Or_int ([r, r2], ()) () with | some ((r3, ()), ()) => some ((r3, ()), ()) | none => none) | none => none) | none => none
noncomputable def impl_comparePairs_x : Cx := ⟨tab, cmp_Or_int_e, fun _ _ => 0, fun _ => false, [(9, 0), (9, 1), (9, 2), (9, 3), (14, 0), (14, 1), (14, 2), (14, 3), (15, 0), (16, 0), (16, 1), (16, 2), (16, 3)], [(2, 0), (3, 0)]⟩
noncomputable def c132 : Code := bodyOf Tryz.f132
noncomputable def impl_comparePairs_A : Ann := .seq .nil (.seq (.draw [(0, .flo), (1, .flo), (2, .flo), (3, .flo), (5, .flo), (6, .flo), (7, .flo), (8, .flo), (4, .sole), (9, .sole), (10, .sole), (11, .sole), (12, .flo)]) .nil)
noncomputable def impl_comparePairs_D : Ve.Fn := ⟨132, impl_comparePairs_a, impl_comparePairs_o, impl_comparePairs_E, impl_comparePairs⟩
theorem impl_comparePairs_w : Walk Tryz.prog impl_comparePairs_x impl_comparePairs_D Tryz.f132 c132 17 impl_comparePairs_A :=
  ⟨⟨Tryz.func132, by kernel_rfl, by kernel_rfl, by kernel_rfl, by decide, by kernel_rfl, Nat.le_of_ble_eq_true (by kernel_rfl)⟩, by kernel_rfl, by kernel_rfl, by kernel_rfl, kcast (by kernel_rfl) trivial, by kernel_rfl, fun x y => by kernel_rfl⟩
theorem impl_comparePairs_s : impl_comparePairs_D.Says Tryz.prog := impl_comparePairs_w.says follows tabOk cmp_Or_int_e_ok
noncomputable def impl_comparePairs_e : Env := more cmp_Or_int_e impl_comparePairs_D
theorem impl_comparePairs_e_ok : EnvOk Tryz.prog impl_comparePairs_e := more_ok cmp_Or_int_e_ok impl_comparePairs_s
/-! loop.example/g01128/impl.isPairs -/
abbrev impl_isPairs_J0 : Tpl := ⟨[(0, .val (.list (.prod I I))), (1, .val I), (7, .val (.list (.prod I I))), (8, .val I), (9, .val I)], [], []⟩
abbrev impl_isPairs_J1 : Tpl := ⟨[(4, .val .bool)], [], []⟩
abbrev impl_isPairs_J2 : Tpl := ⟨[], [], []⟩
abbrev impl_isPairs_E : Ve.End := ⟨[⟨4, .shr, .bool, none⟩], []⟩
abbrev impl_isPairs_a : List ASh := [.val (.list (.prod I I)), .val I]
abbrev impl_isPairs_o : List OSh := []
abbrev impl_isPairs_O0 : Out := .or .ret impl_isPairs_J1 (.one (.ex 0) impl_isPairs_J2)
noncomputable def impl_isPairs_B0 : impl_isPairs_J0.P → Option (impl_isPairs_J0.P ⊕ impl_isPairs_O0.P)
  | ((list, below, t7, t8, t9, ()), ()) => bif (decide (t9 < t8)) then (guardB (inb t9 (List.length t7)) (bif (decide (((List.getD t7 (Int.toNat t9) ((0 : Int), (0 : Int))).1) < (0 : Int))) then (some (.inr (.inl ((false, ()), ())))) else (bif (decide (((List.getD t7 (Int.toNat t9) ((0 : Int), (0 : Int))).2) ≤ ((List.getD t7 (Int.toNat t9) ((0 : Int), (0 : Int))).1))) then (some (.inr (.inl ((false, ()), ())))) else (bif (decide (below ≤ ((List.getD t7 (Int.toNat t9) ((0 : Int), (0 : Int))).2))) then (some (.inr (.inl ((false, ()), ())))) else (bif (decide ((0 : Int) < t9)) then (guardB (inb (w64 (t9 - (1 : Int))) (List.length list)) (match impl_comparePairs ((List.getD list (Int.toNat (w64 (t9 - (1 : Int)))) ((0 : Int), (0 : Int))), (List.getD t7 (Int.toNat t9) ((0 : Int), (0 : Int))), ()) () with | some ((r, ()), ()) => (bif (decide ((0 : Int) ≤ r)) then (some (.inr (.inl ((false, ()), ())))) else (some (.inl ((list, below, t7, t8, (w64 (t9 + (1 : Int))), ()), ())))) | none => none)) else (some (.inl ((list, below, t7, t8, (w64 (t9 + (1 : Int))), ()), ())))))))) else (some (.inr (.inr ((), ()))))
noncomputable def impl_isPairs : argP impl_isPairs_a → obP (extObs 0 impl_isPairs_o) → Option impl_isPairs_E.P
  | (list, below, ()), () => match loopO impl_isPairs_B0 ((list, below, list, (List.length list : Int), (0 : Int), ()), ()) with | some (.inl ((t4, ()), ())) => some ((t4, ()), ()) | some (.inr ((), ())) => some ((true, ()), ()) | none => none
noncomputable def impl_isPairs_x : Cx := ⟨tab, impl_comparePairs_e, fun _ _ => 0, fun _ => false, [(40, 0), (40, 1), (40, 2), (40, 3)], [(6, 0)]⟩
noncomputable def c142 : Code := bodyOf Tryz.f142
noncomputable def impl_isPairs_A : Ann := .seq .nil (.seq (.seq .nil (.loop impl_isPairs_J0 impl_isPairs_O0 impl_isPairs_B0 (.seq .nil (.seq .nil (.seq (.seq .nil (.seq (.draw [(0, .flo), (1, .flo), (2, .flo), (3, .flo), (4, .flo), (6, .flo), (5, .qui), (7, .qui), (8, .flo), (9, .flo), (10, .flo), (11, .flo), (13, .flo), (12, .qui), (14, .flo), (15, .flo), (16, .flo), (17, .flo), (18, .flo), (19, .flo), (20, .flo), (21, .flo), (22, .flo), (23, .flo), (24, .qui), (25, .qui), (26, .sole), (27, .flo), (28, .flo), (29, .flo)]) .nil)) .nil))))) .nil)
theorem impl_isPairs_r0 (p : impl_isPairs_J0.P) : run impl_isPairs_x (subc [1, 0, 1, 0, 0] c142) (.seq .nil (.seq .nil (.seq (.seq .nil (.seq (.draw [(0, .flo), (1, .flo), (2, .flo), (3, .flo), (4, .flo), (6, .flo), (5, .qui), (7, .qui), (8, .flo), (9, .flo), (10, .flo), (11, .flo), (13, .flo), (12, .qui), (14, .flo), (15, .flo), (16, .flo), (17, .flo), (18, .flo), (19, .flo), (20, .flo), (21, .flo), (22, .flo), (23, .flo), (24, .qui), (25, .qui), (26, .sole), (27, .flo), (28, .flo), (29, .flo)]) .nil)) .nil))) (impl_isPairs_J0.S p) (leaf impl_isPairs_J0 impl_isPairs_O0) = impl_isPairs_B0 p := by kernel_rfl
noncomputable def impl_isPairs_D : Ve.Fn := ⟨142, impl_isPairs_a, impl_isPairs_o, impl_isPairs_E, impl_isPairs⟩
theorem impl_isPairs_w : Walk Tryz.prog impl_isPairs_x impl_isPairs_D Tryz.f142 c142 45 impl_isPairs_A :=
  ⟨⟨Tryz.func142, by kernel_rfl, by kernel_rfl, by kernel_rfl, by decide, by kernel_rfl, Nat.le_of_ble_eq_true (by kernel_rfl)⟩, by kernel_rfl, by kernel_rfl, by kernel_rfl, kcast (by kernel_rfl) (⟨impl_isPairs_r0, trivial⟩ : (∀ p, run impl_isPairs_x (subc [1, 0, 1, 0, 0] c142) (.seq .nil (.seq .nil (.seq (.seq .nil (.seq (.draw [(0, .flo), (1, .flo), (2, .flo), (3, .flo), (4, .flo), (6, .flo), (5, .qui), (7, .qui), (8, .flo), (9, .flo), (10, .flo), (11, .flo), (13, .flo), (12, .qui), (14, .flo), (15, .flo), (16, .flo), (17, .flo), (18, .flo), (19, .flo), (20, .flo), (21, .flo), (22, .flo), (23, .flo), (24, .qui), (25, .qui), (26, .sole), (27, .flo), (28, .flo), (29, .flo)]) .nil)) .nil))) (impl_isPairs_J0.S p) (leaf impl_isPairs_J0 impl_isPairs_O0) = impl_isPairs_B0 p) ∧ True), by kernel_rfl, fun x y => by kernel_rfl⟩
theorem impl_isPairs_s : impl_isPairs_D.Says Tryz.prog := impl_isPairs_w.says follows tabOk impl_comparePairs_e_ok
noncomputable def impl_isPairs_e : Env := more impl_comparePairs_e impl_isPairs_D
theorem impl_isPairs_e_ok : EnvOk Tryz.prog impl_isPairs_e := more_ok impl_comparePairs_e_ok impl_isPairs_s
/-! loop.example/g01128/impl.IsGraph -/
abbrev impl_IsGraph_E : Ve.End := ⟨[⟨2, .shr, .bool, none⟩], []⟩
abbrev impl_IsGraph_a : List ASh := [.val (.prod I (.list (.prod I I)))]
abbrev impl_IsGraph_o : List OSh := []
noncomputable def impl_IsGraph : argP impl_IsGraph_a → obP (extObs 0 impl_IsGraph_o) → Option impl_IsGraph_E.P
  | (g, ()), () => match impl_between (g.1, (0 : Int), (8 : Int), ()) () with | some ((r, ()), ()) => (bif r then (match impl_isPairs (g.2, g.1, ()) () with | some ((r2, ()), ()) => some ((r2, ()), ()) | none => none) else (some ((false, ()), ()))) | none => none
noncomputable def impl_IsGraph_x : Cx := ⟨tab, impl_isPairs_e, fun _ _ => 0, fun _ => false, [(5, 0), (5, 1), (5, 2), (5, 3), (11, 0), (11, 1), (11, 2), (11, 3)], [(1, 0)]⟩
noncomputable def c83 : Code := bodyOf Tryz.f83
noncomputable def impl_IsGraph_A : Ann := .nil
noncomputable def impl_IsGraph_D : Ve.Fn := ⟨83, impl_IsGraph_a, impl_IsGraph_o, impl_IsGraph_E, impl_IsGraph⟩
theorem impl_IsGraph_w : Walk Tryz.prog impl_IsGraph_x impl_IsGraph_D Tryz.f83 c83 13 impl_IsGraph_A :=
  ⟨⟨Tryz.func83, by kernel_rfl, by kernel_rfl, by kernel_rfl, by decide, by kernel_rfl, Nat.le_of_ble_eq_true (by kernel_rfl)⟩, by kernel_rfl, by kernel_rfl, by kernel_rfl, kcast (by kernel_rfl) trivial, by kernel_rfl, fun x y => by kernel_rfl⟩
theorem impl_IsGraph_s : impl_IsGraph_D.Says Tryz.prog := impl_IsGraph_w.says follows tabOk impl_isPairs_e_ok
noncomputable def impl_IsGraph_e : Env := more impl_isPairs_e impl_IsGraph_D
theorem impl_IsGraph_e_ok : EnvOk Tryz.prog impl_IsGraph_e := more_ok impl_isPairs_e_ok impl_IsGraph_s
/-! loop.example/g01128/impl.isColourCase -/
abbrev impl_isColourCase_E : Ve.End := ⟨[⟨4, .shr, .bool, none⟩], []⟩
abbrev impl_isColourCase_a : List ASh := [.val (.prod I (.list (.prod I I))), .val I]
abbrev impl_isColourCase_o : List OSh := []
noncomputable def impl_isColourCase : argP impl_isColourCase_a → obP (extObs 0 impl_isColourCase_o) → Option impl_isColourCase_E.P
  | (g, k, ()), () => match impl_IsGraph (g, ()) () with | some ((r, ()), ()) => (bif r then (match impl_between (k, (1 : Int), (5 : Int), ()) () with | some ((r2, ()), ()) => some ((r2, ()), ()) | none => none) else (some ((false, ()), ()))) | none => none
noncomputable def impl_isColourCase_x : Cx := ⟨tab, impl_IsGraph_e, fun _ _ => 0, fun _ => false, [(6, 0), (6, 1), (6, 2), (6, 3), (9, 0), (9, 1), (9, 2), (9, 3)], [(2, 0)]⟩
noncomputable def c90 : Code := bodyOf Tryz.f90
noncomputable def impl_isColourCase_A : Ann := .nil
noncomputable def impl_isColourCase_D : Ve.Fn := ⟨90, impl_isColourCase_a, impl_isColourCase_o, impl_isColourCase_E, impl_isColourCase⟩
theorem impl_isColourCase_w : Walk Tryz.prog impl_isColourCase_x impl_isColourCase_D Tryz.f90 c90 11 impl_isColourCase_A :=
  ⟨⟨Tryz.func90, by kernel_rfl, by kernel_rfl, by kernel_rfl, by decide, by kernel_rfl, Nat.le_of_ble_eq_true (by kernel_rfl)⟩, by kernel_rfl, by kernel_rfl, by kernel_rfl, kcast (by kernel_rfl) trivial, by kernel_rfl, fun x y => by kernel_rfl⟩
theorem impl_isColourCase_s : impl_isColourCase_D.Says Tryz.prog := impl_isColourCase_w.says follows tabOk impl_IsGraph_e_ok
noncomputable def impl_isColourCase_e : Env := more impl_IsGraph_e impl_isColourCase_D
theorem impl_isColourCase_e_ok : EnvOk Tryz.prog impl_isColourCase_e := more_ok impl_IsGraph_e_ok impl_isColourCase_s
/-! loop.example/g01128/impl.isRising -/
abbrev impl_isRising_J0 : Tpl := ⟨[(0, .val (.list I)), (1, .val I), (7, .val (.list I)), (8, .val I), (9, .val I)], [], []⟩
abbrev impl_isRising_J1 : Tpl := ⟨[(4, .val .bool)], [], []⟩
abbrev impl_isRising_J2 : Tpl := ⟨[], [], []⟩
abbrev impl_isRising_E : Ve.End := ⟨[⟨4, .shr, .bool, none⟩], []⟩
abbrev impl_isRising_a : List ASh := [.val (.list I), .val I]
abbrev impl_isRising_o : List OSh := []
abbrev impl_isRising_O0 : Out := .or .ret impl_isRising_J1 (.one (.ex 0) impl_isRising_J2)
noncomputable def impl_isRising_B0 : impl_isRising_J0.P → Option (impl_isRising_J0.P ⊕ impl_isRising_O0.P)
  | ((list, below, t7, t8, t9, ()), ()) => bif (decide (t9 < t8)) then (guardB (inb t9 (List.length t7)) (match impl_between ((List.getD t7 (Int.toNat t9) (0 : Int)), (0 : Int), (w64 (below - (1 : Int))), ()) () with | some ((r, ()), ()) => (bif (!r) then (some (.inr (.inl ((false, ()), ())))) else (bif (decide ((0 : Int) < t9)) then (guardB (inb (w64 (t9 - (1 : Int))) (List.length list)) (bif (decide ((List.getD t7 (Int.toNat t9) (0 : Int)) ≤ (List.getD list (Int.toNat (w64 (t9 - (1 : Int)))) (0 : Int)))) then (some (.inr (.inl ((false, ()), ())))) else (some (.inl ((list, below, t7, t8, (w64 (t9 + (1 : Int))), ()), ()))))) else (some (.inl ((list, below, t7, t8, (w64 (t9 + (1 : Int))), ()), ()))))) | none => none)) else (some (.inr (.inr ((), ()))))
noncomputable def impl_isRising : argP impl_isRising_a → obP (extObs 0 impl_isRising_o) → Option impl_isRising_E.P
  | (list, below, ()), () => match loopO impl_isRising_B0 ((list, below, list, (List.length list : Int), (0 : Int), ()), ()) with | some (.inl ((t4, ()), ())) => some ((t4, ()), ()) | some (.inr ((), ())) => some ((true, ()), ()) | none => none
noncomputable def impl_isRising_x : Cx := ⟨tab, impl_isColourCase_e, fun _ _ => 0, fun _ => false, [(17, 0), (17, 1), (17, 2), (17, 3)], []⟩
noncomputable def c153 : Code := bodyOf Tryz.f153
noncomputable def impl_isRising_A : Ann := .seq .nil (.seq (.seq .nil (.loop impl_isRising_J0 impl_isRising_O0 impl_isRising_B0 .nil)) .nil)
theorem impl_isRising_r0 (p : impl_isRising_J0.P) : run impl_isRising_x (subc [1, 0, 1, 0, 0] c153) .nil (impl_isRising_J0.S p) (leaf impl_isRising_J0 impl_isRising_O0) = impl_isRising_B0 p := by kernel_rfl
noncomputable def impl_isRising_D : Ve.Fn := ⟨153, impl_isRising_a, impl_isRising_o, impl_isRising_E, impl_isRising⟩
theorem impl_isRising_w : Walk Tryz.prog impl_isRising_x impl_isRising_D Tryz.f153 c153 33 impl_isRising_A :=
  ⟨⟨Tryz.func153, by kernel_rfl, by kernel_rfl, by kernel_rfl, by decide, by kernel_rfl, Nat.le_of_ble_eq_true (by kernel_rfl)⟩, by kernel_rfl, by kernel_rfl, by kernel_rfl, kcast (by kernel_rfl) (⟨impl_isRising_r0, trivial⟩ : (∀ p, run impl_isRising_x (subc [1, 0, 1, 0, 0] c153) .nil (impl_isRising_J0.S p) (leaf impl_isRising_J0 impl_isRising_O0) = impl_isRising_B0 p) ∧ True), by kernel_rfl, fun x y => by kernel_rfl⟩
theorem impl_isRising_s : impl_isRising_D.Says Tryz.prog := impl_isRising_w.says follows tabOk impl_isColourCase_e_ok
noncomputable def impl_isRising_e : Env := more impl_isColourCase_e impl_isRising_D
theorem impl_isRising_e_ok : EnvOk Tryz.prog impl_isRising_e := more_ok impl_isColourCase_e_ok impl_isRising_s
/-! loop.example/g01128/impl.bagOf -/
abbrev impl_bagOf_J0 : Tpl := ⟨[(3, .val (.int .u64)), (6, .val (.list I)), (7, .val I), (8, .val I)], [], []⟩
abbrev impl_bagOf_J1 : Tpl := ⟨[(3, .val (.int .u64))], [], []⟩
abbrev impl_bagOf_E : Ve.End := ⟨[⟨2, .shr, (.int .u64), none⟩], []⟩
abbrev impl_bagOf_a : List ASh := [.val (.list I)]
abbrev impl_bagOf_o : List OSh := []
abbrev impl_bagOf_O0 : Out := .one (.ex 0) impl_bagOf_J1
noncomputable def impl_bagOf_B0 : impl_bagOf_J0.P → Option (impl_bagOf_J0.P ⊕ impl_bagOf_O0.P)
  | ((out, t6, t7, t8, ()), ()) => bif (decide (t8 < t7)) then (guardB (inb t8 (List.length t6)) (guardB (decide (0 ≤ (List.getD t6 (Int.toNat t8) (0 : Int)))) (some (.inl (((IntKind.wrap .u64 (BitVec.ofInt 64 out ||| BitVec.ofInt 64 (IntKind.wrap .u64 ((1 : Int) * 2 ^ (min (Int.toNat (List.getD t6 (Int.toNat t8) (0 : Int))) 64)))).toNat), t6, t7, (w64 (t8 + (1 : Int))), ()), ()))))) else (some (.inr ((out, ()), ())))
noncomputable def impl_bagOf : argP impl_bagOf_a → obP (extObs 0 impl_bagOf_o) → Option impl_bagOf_E.P
  | (list, ()), () => match loopO impl_bagOf_B0 (((0 : Int), list, (List.length list : Int), (0 : Int), ()), ()) with | some ((out, ()), ()) => some ((out, ()), ()) | none => none
noncomputable def impl_bagOf_x : Cx := ⟨tab, impl_isRising_e, fun _ _ => 0, fun _ => false, [], []⟩
noncomputable def c71 : Code := bodyOf Tryz.f71
noncomputable def impl_bagOf_A : Ann := .seq .nil (.seq .nil (.seq (.seq .nil (.loop impl_bagOf_J0 impl_bagOf_O0 impl_bagOf_B0 .nil)) .nil))
theorem impl_bagOf_r0 (p : impl_bagOf_J0.P) : run impl_bagOf_x (subc [1, 1, 0, 1, 0, 0] c71) .nil (impl_bagOf_J0.S p) (leaf impl_bagOf_J0 impl_bagOf_O0) = impl_bagOf_B0 p := by kernel_rfl
noncomputable def impl_bagOf_D : Ve.Fn := ⟨71, impl_bagOf_a, impl_bagOf_o, impl_bagOf_E, impl_bagOf⟩
theorem impl_bagOf_w : Walk Tryz.prog impl_bagOf_x impl_bagOf_D Tryz.f71 c71 18 impl_bagOf_A :=
  ⟨⟨Tryz.func71, by kernel_rfl, by kernel_rfl, by kernel_rfl, by decide, by kernel_rfl, Nat.le_of_ble_eq_true (by kernel_rfl)⟩, by kernel_rfl, by kernel_rfl, by kernel_rfl, kcast (by kernel_rfl) (⟨impl_bagOf_r0, trivial⟩ : (∀ p, run impl_bagOf_x (subc [1, 1, 0, 1, 0, 0] c71) .nil (impl_bagOf_J0.S p) (leaf impl_bagOf_J0 impl_bagOf_O0) = impl_bagOf_B0 p) ∧ True), by kernel_rfl, fun x y => by kernel_rfl⟩
theorem impl_bagOf_s : impl_bagOf_D.Says Tryz.prog := impl_bagOf_w.says follows tabOk impl_isRising_e_ok
noncomputable def impl_bagOf_e : Env := more impl_isRising_e impl_bagOf_D
theorem impl_bagOf_e_ok : EnvOk Tryz.prog impl_bagOf_e := more_ok impl_isRising_e_ok impl_bagOf_s
/-! (loop.example/g01128/impl.bag).has -/
abbrev impl_bag_has_E : Ve.End := ⟨[⟨4, .shr, .bool, none⟩], []⟩
abbrev impl_bag_has_a : List ASh := [.val (.int .u64), .val I]
abbrev impl_bag_has_o : List OSh := []
noncomputable def impl_bag_has : argP impl_bag_has_a → obP (extObs 0 impl_bag_has_o) → Option impl_bag_has_E.P
  | (b, x, ()), () => guardB (decide (0 ≤ x)) (some ((((IntKind.wrap .u64 (BitVec.ofInt 64 (Int.fdiv b (2 ^ (min (Int.toNat x) 64))) &&& BitVec.ofInt 64 (1 : Int)).toNat) == (1 : Int)), ()), ()))
noncomputable def impl_bag_has_x : Cx := ⟨tab, impl_bagOf_e, fun _ _ => 0, fun _ => false, [], []⟩
noncomputable def c73 : Code := bodyOf Tryz.f73
noncomputable def impl_bag_has_A : Ann := .nil
noncomputable def impl_bag_has_D : Ve.Fn := ⟨73, impl_bag_has_a, impl_bag_has_o, impl_bag_has_E, impl_bag_has⟩
theorem impl_bag_has_w : Walk Tryz.prog impl_bag_has_x impl_bag_has_D Tryz.f73 c73 10 impl_bag_has_A :=
  ⟨⟨Tryz.func73, by kernel_rfl, by kernel_rfl, by kernel_rfl, by decide, by kernel_rfl, Nat.le_of_ble_eq_true (by kernel_rfl)⟩, by kernel_rfl, by kernel_rfl, by kernel_rfl, kcast (by kernel_rfl) trivial, by kernel_rfl, fun x y => by kernel_rfl⟩
theorem impl_bag_has_s : impl_bag_has_D.Says Tryz.prog := impl_bag_has_w.says follows tabOk impl_bagOf_e_ok
noncomputable def impl_bag_has_e : Env := more impl_bagOf_e impl_bag_has_D
theorem impl_bag_has_e_ok : EnvOk Tryz.prog impl_bag_has_e := more_ok impl_bagOf_e_ok impl_bag_has_s
/-! (loop.example/g01128/impl.Graph).isFree$1 -/
abbrev impl_Graph_isFree_1_vc_E : Ve.End := ⟨[⟨3, .shr, .bool, none⟩], []⟩
abbrev impl_Graph_isFree_1_vc_a : List ASh := [.val (.prod I I), .cst (.int .u64)]
abbrev impl_Graph_isFree_1_vc_o : List OSh := []
noncomputable def impl_Graph_isFree_1_vc : argP impl_Graph_isFree_1_vc_a → obP (extObs 0 impl_Graph_isFree_1_vc_o) → Option impl_Graph_isFree_1_vc_E.P
  | (e, t1, ()), () => match impl_bag_has (t1, e.1, ()) () with | some ((r, ()), ()) => (bif r then (match impl_bag_has (t1, e.2, ()) () with | some ((r2, ()), ()) => some ((r2, ()), ()) | none => none) else (some ((false, ()), ()))) | none => none
noncomputable def impl_Graph_isFree_1_vc_x : Cx := ⟨tab, impl_bag_has_e, fun _ _ => 0, fun _ => false, [(7, 0), (7, 1), (7, 2), (7, 3), (12, 0), (12, 1), (12, 2), (12, 3)], [(2, 0)]⟩
noncomputable def c205 : Code := bodyOf Tryz.f205
noncomputable def impl_Graph_isFree_1_vc_A : Ann := .nil
noncomputable def impl_Graph_isFree_1_vc_D : Ve.Fn := ⟨205, impl_Graph_isFree_1_vc_a, impl_Graph_isFree_1_vc_o, impl_Graph_isFree_1_vc_E, impl_Graph_isFree_1_vc⟩
theorem impl_Graph_isFree_1_vc_w : Walk Tryz.prog impl_Graph_isFree_1_vc_x impl_Graph_isFree_1_vc_D Tryz.f205 c205 14 impl_Graph_isFree_1_vc_A :=
  ⟨⟨Tryz.func205, by kernel_rfl, by kernel_rfl, by kernel_rfl, by decide, by kernel_rfl, Nat.le_of_ble_eq_true (by kernel_rfl)⟩, by kernel_rfl, by kernel_rfl, by kernel_rfl, kcast (by kernel_rfl) trivial, by kernel_rfl, fun x y => by kernel_rfl⟩
theorem impl_Graph_isFree_1_vc_s : impl_Graph_isFree_1_vc_D.Says Tryz.prog := impl_Graph_isFree_1_vc_w.says follows tabOk impl_bag_has_e_ok
noncomputable def impl_Graph_isFree_1_vc_e : Env := more impl_bag_has_e impl_Graph_isFree_1_vc_D
theorem impl_Graph_isFree_1_vc_e_ok : EnvOk Tryz.prog impl_Graph_isFree_1_vc_e := more_ok impl_bag_has_e_ok impl_Graph_isFree_1_vc_s
/-! slices.IndexFunc[[][2]int,[2]int] -/
abbrev slices_IndexFunc_2_int_2_int_vf_impl_Graph_isFree_1_0__bs_J0 : Tpl := ⟨[(0, .val (.list (.prod I I))), (1, .fn ⟨205, [(1000000, 0)]⟩), (7, .val I), (8, .val I)], [((1000000, 0), .box .shr (.int .u64))], []⟩
abbrev slices_IndexFunc_2_int_2_int_vf_impl_Graph_isFree_1_0__bs_J1 : Tpl := ⟨[(4, .val I)], [((1000000, 0), .box .shr (.int .u64))], []⟩
abbrev slices_IndexFunc_2_int_2_int_vf_impl_Graph_isFree_1_0__bs_J2 : Tpl := ⟨[], [((1000000, 0), .box .shr (.int .u64))], []⟩
abbrev slices_IndexFunc_2_int_2_int_vf_impl_Graph_isFree_1_0__bs_E : Ve.End := ⟨[⟨4, .shr, I, none⟩], [.box .shr (.int .u64)]⟩
abbrev slices_IndexFunc_2_int_2_int_vf_impl_Graph_isFree_1_0__bs_a : List ASh := [.val (.list (.prod I I)), .fn 205 [0]]
abbrev slices_IndexFunc_2_int_2_int_vf_impl_Graph_isFree_1_0__bs_o : List OSh := [.box .shr (.int .u64)]
abbrev slices_IndexFunc_2_int_2_int_vf_impl_Graph_isFree_1_0__bs_O0 : Out := .or .ret slices_IndexFunc_2_int_2_int_vf_impl_Graph_isFree_1_0__bs_J1 (.one (.ex 0) slices_IndexFunc_2_int_2_int_vf_impl_Graph_isFree_1_0__bs_J2)
noncomputable def slices_IndexFunc_2_int_2_int_vf_impl_Graph_isFree_1_0__bs_B0 : slices_IndexFunc_2_int_2_int_vf_impl_Graph_isFree_1_0__bs_J0.P → Option (slices_IndexFunc_2_int_2_int_vf_impl_Graph_isFree_1_0__bs_J0.P ⊕ slices_IndexFunc_2_int_2_int_vf_impl_Graph_isFree_1_0__bs_O0.P)
  | ((s, t7, t8, ()), (o0, ())) => bif (decide (t8 < t7)) then (guardB (inb t8 (List.length s)) (match impl_Graph_isFree_1_vc ((List.getD s (Int.toNat t8) ((0 : Int), (0 : Int))), o0, ()) () with | some ((r, ()), ()) => (bif r then (some (.inr (.inl ((t8, ()), (o0, ()))))) else (some (.inl ((s, t7, (w64 (t8 + (1 : Int))), ()), (o0, ()))))) | none => none)) else (some (.inr (.inr ((), (o0, ())))))
noncomputable def slices_IndexFunc_2_int_2_int_vf_impl_Graph_isFree_1_0__bs : argP slices_IndexFunc_2_int_2_int_vf_impl_Graph_isFree_1_0__bs_a → obP (extObs 0 slices_IndexFunc_2_int_2_int_vf_impl_Graph_isFree_1_0__bs_o) → Option slices_IndexFunc_2_int_2_int_vf_impl_Graph_isFree_1_0__bs_E.P
  | (s, ()), (o0, ()) => match loopO slices_IndexFunc_2_int_2_int_vf_impl_Graph_isFree_1_0__bs_B0 ((s, (List.length s : Int), (0 : Int), ()), (o0, ())) with | some (.inl ((t4, ()), (o0_2, ()))) => some ((t4, ()), (o0_2, ())) | some (.inr ((), (o0_3, ()))) => some (((-1 : Int), ()), (o0_3, ())) | none => none
noncomputable def slices_IndexFunc_2_int_2_int_vf_impl_Graph_isFree_1_0__bs_x : Cx := ⟨tab, impl_Graph_isFree_1_vc_e, fun _ _ => 0, fun _ => false, [(16, 0), (16, 1), (16, 2), (16, 3)], []⟩
noncomputable def c207 : Code := bodyOf Tryz.f207
noncomputable def slices_IndexFunc_2_int_2_int_vf_impl_Graph_isFree_1_0__bs_A : Ann := .seq .nil (.seq (.seq .nil (.loop slices_IndexFunc_2_int_2_int_vf_impl_Graph_isFree_1_0__bs_J0 slices_IndexFunc_2_int_2_int_vf_impl_Graph_isFree_1_0__bs_O0 slices_IndexFunc_2_int_2_int_vf_impl_Graph_isFree_1_0__bs_B0 .nil)) .nil)
theorem slices_IndexFunc_2_int_2_int_vf_impl_Graph_isFree_1_0__bs_r0 (p : slices_IndexFunc_2_int_2_int_vf_impl_Graph_isFree_1_0__bs_J0.P) : run slices_IndexFunc_2_int_2_int_vf_impl_Graph_isFree_1_0__bs_x (subc [1, 0, 1, 0, 0] c207) .nil (slices_IndexFunc_2_int_2_int_vf_impl_Graph_isFree_1_0__bs_J0.S p) (leaf slices_IndexFunc_2_int_2_int_vf_impl_Graph_isFree_1_0__bs_J0 slices_IndexFunc_2_int_2_int_vf_impl_Graph_isFree_1_0__bs_O0) = slices_IndexFunc_2_int_2_int_vf_impl_Graph_isFree_1_0__bs_B0 p := by kernel_rfl
noncomputable def slices_IndexFunc_2_int_2_int_vf_impl_Graph_isFree_1_0__bs_D : Ve.Fn := ⟨207, slices_IndexFunc_2_int_2_int_vf_impl_Graph_isFree_1_0__bs_a, slices_IndexFunc_2_int_2_int_vf_impl_Graph_isFree_1_0__bs_o, slices_IndexFunc_2_int_2_int_vf_impl_Graph_isFree_1_0__bs_E, slices_IndexFunc_2_int_2_int_vf_impl_Graph_isFree_1_0__bs⟩
theorem slices_IndexFunc_2_int_2_int_vf_impl_Graph_isFree_1_0__bs_w : Walk Tryz.prog slices_IndexFunc_2_int_2_int_vf_impl_Graph_isFree_1_0__bs_x slices_IndexFunc_2_int_2_int_vf_impl_Graph_isFree_1_0__bs_D Tryz.f207 c207 19 slices_IndexFunc_2_int_2_int_vf_impl_Graph_isFree_1_0__bs_A :=
  ⟨⟨Tryz.func207, by kernel_rfl, by kernel_rfl, by kernel_rfl, by decide, by kernel_rfl, Nat.le_of_ble_eq_true (by kernel_rfl)⟩, by kernel_rfl, by kernel_rfl, by kernel_rfl, kcast (by kernel_rfl) (⟨slices_IndexFunc_2_int_2_int_vf_impl_Graph_isFree_1_0__bs_r0, trivial⟩ : (∀ p, run slices_IndexFunc_2_int_2_int_vf_impl_Graph_isFree_1_0__bs_x (subc [1, 0, 1, 0, 0] c207) .nil (slices_IndexFunc_2_int_2_int_vf_impl_Graph_isFree_1_0__bs_J0.S p) (leaf slices_IndexFunc_2_int_2_int_vf_impl_Graph_isFree_1_0__bs_J0 slices_IndexFunc_2_int_2_int_vf_impl_Graph_isFree_1_0__bs_O0) = slices_IndexFunc_2_int_2_int_vf_impl_Graph_isFree_1_0__bs_B0 p) ∧ True), by kernel_rfl, fun x y => by kernel_rfl⟩
theorem slices_IndexFunc_2_int_2_int_vf_impl_Graph_isFree_1_0__bs_s : slices_IndexFunc_2_int_2_int_vf_impl_Graph_isFree_1_0__bs_D.Says Tryz.prog := slices_IndexFunc_2_int_2_int_vf_impl_Graph_isFree_1_0__bs_w.says follows tabOk impl_Graph_isFree_1_vc_e_ok
noncomputable def slices_IndexFunc_2_int_2_int_vf_impl_Graph_isFree_1_0__bs_e : Env := more impl_Graph_isFree_1_vc_e slices_IndexFunc_2_int_2_int_vf_impl_Graph_isFree_1_0__bs_D
theorem slices_IndexFunc_2_int_2_int_vf_impl_Graph_isFree_1_0__bs_e_ok : EnvOk Tryz.prog slices_IndexFunc_2_int_2_int_vf_impl_Graph_isFree_1_0__bs_e := more_ok impl_Graph_isFree_1_vc_e_ok slices_IndexFunc_2_int_2_int_vf_impl_Graph_isFree_1_0__bs_s
/-! slices.ContainsFunc[[][2]int,[2]int] -/
abbrev slices_ContainsFunc_2_int_2_int_vf_impl_Graph_isFree_1_0__bs_E : Ve.End := ⟨[⟨4, .shr, .bool, none⟩], [.box .shr (.int .u64)]⟩
abbrev slices_ContainsFunc_2_int_2_int_vf_impl_Graph_isFree_1_0__bs_a : List ASh := [.val (.list (.prod I I)), .fn 205 [0]]
abbrev slices_ContainsFunc_2_int_2_int_vf_impl_Graph_isFree_1_0__bs_o : List OSh := [.box .shr (.int .u64)]
noncomputable def slices_ContainsFunc_2_int_2_int_vf_impl_Graph_isFree_1_0__bs : argP slices_ContainsFunc_2_int_2_int_vf_impl_Graph_isFree_1_0__bs_a → obP (extObs 0 slices_ContainsFunc_2_int_2_int_vf_impl_Graph_isFree_1_0__bs_o) → Option slices_ContainsFunc_2_int_2_int_vf_impl_Graph_isFree_1_0__bs_E.P
  | (s, ()), (o0, ()) => match slices_IndexFunc_2_int_2_int_vf_impl_Graph_isFree_1_0__bs (s, ()) (o0, ()) with | some ((r, ()), (o, ())) => some (((decide ((0 : Int) ≤ r)), ()), (o, ())) | none => none
noncomputable def slices_ContainsFunc_2_int_2_int_vf_impl_Graph_isFree_1_0__bs_x : Cx := ⟨tab, slices_IndexFunc_2_int_2_int_vf_impl_Graph_isFree_1_0__bs_e, fun _ _ => 0, fun _ => false, [(7, 0), (7, 1), (7, 2), (7, 3)], []⟩
noncomputable def c157 : Code := bodyOf Tryz.f157
noncomputable def slices_ContainsFunc_2_int_2_int_vf_impl_Graph_isFree_1_0__bs_A : Ann := .nil
noncomputable def slices_ContainsFunc_2_int_2_int_vf_impl_Graph_isFree_1_0__bs_D : Ve.Fn := ⟨157, slices_ContainsFunc_2_int_2_int_vf_impl_Graph_isFree_1_0__bs_a, slices_ContainsFunc_2_int_2_int_vf_impl_Graph_isFree_1_0__bs_o, slices_ContainsFunc_2_int_2_int_vf_impl_Graph_isFree_1_0__bs_E, slices_ContainsFunc_2_int_2_int_vf_impl_Graph_isFree_1_0__bs⟩
theorem slices_ContainsFunc_2_int_2_int_vf_impl_Graph_isFree_1_0__bs_w : Walk Tryz.prog slices_ContainsFunc_2_int_2_int_vf_impl_Graph_isFree_1_0__bs_x slices_ContainsFunc_2_int_2_int_vf_impl_Graph_isFree_1_0__bs_D Tryz.f157 c157 9 slices_ContainsFunc_2_int_2_int_vf_impl_Graph_isFree_1_0__bs_A :=
  ⟨⟨Tryz.func157, by kernel_rfl, by kernel_rfl, by kernel_rfl, by decide, by kernel_rfl, Nat.le_of_ble_eq_true (by kernel_rfl)⟩, by kernel_rfl, by kernel_rfl, by kernel_rfl, kcast (by kernel_rfl) trivial, by kernel_rfl, fun x y => by kernel_rfl⟩
theorem slices_ContainsFunc_2_int_2_int_vf_impl_Graph_isFree_1_0__bs_s : slices_ContainsFunc_2_int_2_int_vf_impl_Graph_isFree_1_0__bs_D.Says Tryz.prog := slices_ContainsFunc_2_int_2_int_vf_impl_Graph_isFree_1_0__bs_w.says follows tabOk slices_IndexFunc_2_int_2_int_vf_impl_Graph_isFree_1_0__bs_e_ok
noncomputable def slices_ContainsFunc_2_int_2_int_vf_impl_Graph_isFree_1_0__bs_e : Env := more slices_IndexFunc_2_int_2_int_vf_impl_Graph_isFree_1_0__bs_e slices_ContainsFunc_2_int_2_int_vf_impl_Graph_isFree_1_0__bs_D
theorem slices_ContainsFunc_2_int_2_int_vf_impl_Graph_isFree_1_0__bs_e_ok : EnvOk Tryz.prog slices_ContainsFunc_2_int_2_int_vf_impl_Graph_isFree_1_0__bs_e := more_ok slices_IndexFunc_2_int_2_int_vf_impl_Graph_isFree_1_0__bs_e_ok slices_ContainsFunc_2_int_2_int_vf_impl_Graph_isFree_1_0__bs_s
/-! (loop.example/g01128/impl.Graph).isFree -/
abbrev impl_Graph_isFree_E : Ve.End := ⟨[⟨4, .shr, .bool, none⟩], []⟩
abbrev impl_Graph_isFree_a : List ASh := [.val (.prod I (.list (.prod I I))), .val (.int .u64)]
abbrev impl_Graph_isFree_o : List OSh := []
noncomputable def impl_Graph_isFree : argP impl_Graph_isFree_a → obP (extObs 0 impl_Graph_isFree_o) → Option impl_Graph_isFree_E.P
  | (g, b, ()), () => match slices_ContainsFunc_2_int_2_int_vf_impl_Graph_isFree_1_0__bs (g.2, ()) (b, ()) with | some ((r, ()), (o, ())) => some (((!r), ()), ()) | none => none
noncomputable def impl_Graph_isFree_x : Cx := ⟨tab, slices_ContainsFunc_2_int_2_int_vf_impl_Graph_isFree_1_0__bs_e, fun _ _ => 0, fun _ => false, [(8, 0), (8, 1), (8, 2), (8, 3)], [(2, 0)]⟩
noncomputable def c154 : Code := bodyOf Tryz.f154
noncomputable def impl_Graph_isFree_A : Ann := .nil
noncomputable def impl_Graph_isFree_D : Ve.Fn := ⟨154, impl_Graph_isFree_a, impl_Graph_isFree_o, impl_Graph_isFree_E, impl_Graph_isFree⟩
theorem impl_Graph_isFree_w : Walk Tryz.prog impl_Graph_isFree_x impl_Graph_isFree_D Tryz.f154 c154 10 impl_Graph_isFree_A :=
  ⟨⟨Tryz.func154, by kernel_rfl, by kernel_rfl, by kernel_rfl, by decide, by kernel_rfl, Nat.le_of_ble_eq_true (by kernel_rfl)⟩, by kernel_rfl, by kernel_rfl, by kernel_rfl, kcast (by kernel_rfl) trivial, by kernel_rfl, fun x y => by kernel_rfl⟩
theorem impl_Graph_isFree_s : impl_Graph_isFree_D.Says Tryz.prog := impl_Graph_isFree_w.says follows tabOk slices_ContainsFunc_2_int_2_int_vf_impl_Graph_isFree_1_0__bs_e_ok
noncomputable def impl_Graph_isFree_e : Env := more slices_ContainsFunc_2_int_2_int_vf_impl_Graph_isFree_1_0__bs_e impl_Graph_isFree_D
theorem impl_Graph_isFree_e_ok : EnvOk Tryz.prog impl_Graph_isFree_e := more_ok slices_ContainsFunc_2_int_2_int_vf_impl_Graph_isFree_1_0__bs_e_ok impl_Graph_isFree_s
/-! (loop.example/g01128/impl.Graph).isIndependent -/
abbrev impl_Graph_isIndependent_E : Ve.End := ⟨[⟨4, .shr, .bool, none⟩], []⟩
abbrev impl_Graph_isIndependent_a : List ASh := [.val (.prod I (.list (.prod I I))), .val (.list I)]
abbrev impl_Graph_isIndependent_o : List OSh := []
noncomputable def impl_Graph_isIndependent : argP impl_Graph_isIndependent_a → obP (extObs 0 impl_Graph_isIndependent_o) → Option impl_Graph_isIndependent_E.P
  | (g, set, ()), () => match impl_isRising (set, g.1, ()) () with | some ((r, ()), ()) => (bif r then (match impl_bagOf (set, ()) () with | some ((r2, ()), ()) => (match impl_Graph_isFree (g, r2, ()) () with | some ((r3, ()), ()) => some ((r3, ()), ()) | none => none) | none => none) else (some ((false, ()), ()))) | none => none
noncomputable def impl_Graph_isIndependent_x : Cx := ⟨tab, impl_Graph_isFree_e, fun _ _ => 0, fun _ => false, [(8, 0), (8, 1), (8, 2), (8, 3), (12, 0), (12, 1), (12, 2), (12, 3), (13, 0), (13, 1), (13, 2), (13, 3)], [(2, 0)]⟩
noncomputable def c91 : Code := bodyOf Tryz.f91
noncomputable def impl_Graph_isIndependent_A : Ann := .seq .nil (.seq (.draw [(0, .flo), (1, .flo), (2, .flo), (3, .sole), (4, .flo), (5, .flo), (6, .flo), (7, .sole), (8, .sole), (9, .flo), (10, .flo)]) .nil)
noncomputable def impl_Graph_isIndependent_D : Ve.Fn := ⟨91, impl_Graph_isIndependent_a, impl_Graph_isIndependent_o, impl_Graph_isIndependent_E, impl_Graph_isIndependent⟩
theorem impl_Graph_isIndependent_w : Walk Tryz.prog impl_Graph_isIndependent_x impl_Graph_isIndependent_D Tryz.f91 c91 15 impl_Graph_isIndependent_A :=
  ⟨⟨Tryz.func91, by kernel_rfl, by kernel_rfl, by kernel_rfl, by decide, by kernel_rfl, Nat.le_of_ble_eq_true (by kernel_rfl)⟩, by kernel_rfl, by kernel_rfl, by kernel_rfl, kcast (by kernel_rfl) trivial, by kernel_rfl, fun x y => by kernel_rfl⟩
theorem impl_Graph_isIndependent_s : impl_Graph_isIndependent_D.Says Tryz.prog := impl_Graph_isIndependent_w.says follows tabOk impl_Graph_isFree_e_ok
noncomputable def impl_Graph_isIndependent_e : Env := more impl_Graph_isFree_e impl_Graph_isIndependent_D
theorem impl_Graph_isIndependent_e_ok : EnvOk Tryz.prog impl_Graph_isIndependent_e := more_ok impl_Graph_isFree_e_ok impl_Graph_isIndependent_s
noncomputable def slices_Sorted_int_e : Env := more impl_Graph_isIndependent_e (sortedFn 240 259 .shr)
theorem slices_Sorted_int_e_ok : EnvOk Tryz.prog slices_Sorted_int_e := more_ok impl_Graph_isIndependent_e_ok (Sorted_s _ (.inl rfl))
noncomputable abbrev slices_Sorted_int := (sortedFn 240 259 .shr).F
/-! loop.example/g01128/impl.isOrder -/
abbrev impl_isOrder_E : Ve.End := ⟨[⟨4, .shr, .bool, none⟩], []⟩
abbrev impl_isOrder_a : List ASh := [.val (.list I), .val I]
abbrev impl_isOrder_o : List OSh := []
noncomputable def impl_isOrder : argP impl_isOrder_a → obP (extObs 0 impl_isOrder_o) → Option impl_isOrder_E.P
  | (list, below, ()), () => bif ((List.length list : Int) == below) then (match slices_Sorted_int () (list, ()) with | some ((r, ()), (o, ())) => (match impl_isRising (r, below, ()) () with | some ((r2, ()), ()) => some ((r2, ()), ()) | none => none) | none => none) else (some ((false, ()), ()))
noncomputable def impl_isOrder_x : Cx := ⟨tab, slices_Sorted_int_e, fun _ _ => 0, fun _ => false, [(11, 0), (11, 1), (11, 2), (11, 3), (12, 0), (12, 1), (12, 2), (12, 3), (14, 0), (14, 1), (14, 2), (14, 3)], []⟩
noncomputable def c197 : Code := bodyOf Tryz.f197
noncomputable def impl_isOrder_A : Ann := .nil
noncomputable def impl_isOrder_D : Ve.Fn := ⟨197, impl_isOrder_a, impl_isOrder_o, impl_isOrder_E, impl_isOrder⟩
theorem impl_isOrder_w : Walk Tryz.prog impl_isOrder_x impl_isOrder_D Tryz.f197 c197 16 impl_isOrder_A :=
  ⟨⟨Tryz.func197, by kernel_rfl, by kernel_rfl, by kernel_rfl, by decide, by kernel_rfl, Nat.le_of_ble_eq_true (by kernel_rfl)⟩, by kernel_rfl, by kernel_rfl, by kernel_rfl, kcast (by kernel_rfl) trivial, by kernel_rfl, fun x y => by kernel_rfl⟩
theorem impl_isOrder_s : impl_isOrder_D.Says Tryz.prog := impl_isOrder_w.says follows tabOk slices_Sorted_int_e_ok
noncomputable def impl_isOrder_e : Env := more slices_Sorted_int_e impl_isOrder_D
theorem impl_isOrder_e_ok : EnvOk Tryz.prog impl_isOrder_e := more_ok slices_Sorted_int_e_ok impl_isOrder_s
/-! loop.example/g01128/impl.IsPermutation -/
abbrev impl_IsPermutation_E : Ve.End := ⟨[⟨2, .shr, .bool, none⟩], []⟩
abbrev impl_IsPermutation_a : List ASh := [.val (.list I)]
abbrev impl_IsPermutation_o : List OSh := []
noncomputable def impl_IsPermutation : argP impl_IsPermutation_a → obP (extObs 0 impl_IsPermutation_o) → Option impl_IsPermutation_E.P
  | (p, ()), () => bif (decide ((List.length p : Int) ≤ (8 : Int))) then (match impl_isOrder (p, (List.length p : Int), ()) () with | some ((r, ()), ()) => some ((r, ()), ()) | none => none) else (some ((false, ()), ()))
noncomputable def impl_IsPermutation_x : Cx := ⟨tab, impl_isOrder_e, fun _ _ => 0, fun _ => false, [(10, 0), (10, 1), (10, 2), (10, 3)], []⟩
noncomputable def c208 : Code := bodyOf Tryz.f208
noncomputable def impl_IsPermutation_A : Ann := .nil
noncomputable def impl_IsPermutation_D : Ve.Fn := ⟨208, impl_IsPermutation_a, impl_IsPermutation_o, impl_IsPermutation_E, impl_IsPermutation⟩
theorem impl_IsPermutation_w : Walk Tryz.prog impl_IsPermutation_x impl_IsPermutation_D Tryz.f208 c208 12 impl_IsPermutation_A :=
  ⟨⟨Tryz.func208, by kernel_rfl, by kernel_rfl, by kernel_rfl, by decide, by kernel_rfl, Nat.le_of_ble_eq_true (by kernel_rfl)⟩, by kernel_rfl, by kernel_rfl, by kernel_rfl, kcast (by kernel_rfl) trivial, by kernel_rfl, fun x y => by kernel_rfl⟩
theorem impl_IsPermutation_s : impl_IsPermutation_D.Says Tryz.prog := impl_IsPermutation_w.says follows tabOk impl_isOrder_e_ok
noncomputable def impl_IsPermutation_e : Env := more impl_isOrder_e impl_IsPermutation_D
theorem impl_IsPermutation_e_ok : EnvOk Tryz.prog impl_IsPermutation_e := more_ok impl_isOrder_e_ok impl_IsPermutation_s
/-! loop.example/g01128/impl.isTokens -/
abbrev impl_isTokens_E : Ve.End := ⟨[⟨4, .shr, .bool, none⟩], []⟩
abbrev impl_isTokens_a : List ASh := [.val (.prod I (.list (.prod I I))), .val (.list I)]
abbrev impl_isTokens_o : List OSh := []
noncomputable def impl_isTokens : argP impl_isTokens_a → obP (extObs 0 impl_isTokens_o) → Option impl_isTokens_E.P
  | (g, p, ()), () => match impl_IsGraph (g, ()) () with | some ((r, ()), ()) => (bif r then (match impl_IsPermutation (p, ()) () with | some ((r2, ()), ()) => (bif r2 then (some ((((List.length p : Int) == g.1), ()), ())) else (some ((false, ()), ()))) | none => none) else (some ((false, ()), ()))) | none => none
noncomputable def impl_isTokens_x : Cx := ⟨tab, impl_IsPermutation_e, fun _ _ => 0, fun _ => false, [(6, 0), (6, 1), (6, 2), (6, 3), (9, 0), (9, 1), (9, 2), (9, 3)], [(2, 0)]⟩
noncomputable def c159 : Code := bodyOf Tryz.f159
noncomputable def impl_isTokens_A : Ann := .nil
noncomputable def impl_isTokens_D : Ve.Fn := ⟨159, impl_isTokens_a, impl_isTokens_o, impl_isTokens_E, impl_isTokens⟩
theorem impl_isTokens_w : Walk Tryz.prog impl_isTokens_x impl_isTokens_D Tryz.f159 c159 18 impl_isTokens_A :=
  ⟨⟨Tryz.func159, by kernel_rfl, by kernel_rfl, by kernel_rfl, by decide, by kernel_rfl, Nat.le_of_ble_eq_true (by kernel_rfl)⟩, by kernel_rfl, by kernel_rfl, by kernel_rfl, kcast (by kernel_rfl) trivial, by kernel_rfl, fun x y => by kernel_rfl⟩
theorem impl_isTokens_s : impl_isTokens_D.Says Tryz.prog := impl_isTokens_w.says follows tabOk impl_IsPermutation_e_ok
noncomputable def impl_isTokens_e : Env := more impl_IsPermutation_e impl_isTokens_D
theorem impl_isTokens_e_ok : EnvOk Tryz.prog impl_isTokens_e := more_ok impl_IsPermutation_e_ok impl_isTokens_s
/-! loop.example/g01128/impl.isBoard -/
abbrev impl_isBoard_E : Ve.End := ⟨[⟨4, .shr, .bool, none⟩], []⟩
abbrev impl_isBoard_a : List ASh := [.val (.prod I (.list (.prod I I))), .val (.list I)]
abbrev impl_isBoard_o : List OSh := []
noncomputable def impl_isBoard : argP impl_isBoard_a → obP (extObs 0 impl_isBoard_o) → Option impl_isBoard_E.P
  | (g, board, ()), () => match impl_isTokens (g, board, ()) () with | some ((r, ()), ()) => (bif r then (match impl_between (g.1, (1 : Int), (6 : Int), ()) () with | some ((r2, ()), ()) => some ((r2, ()), ()) | none => none) else (some ((false, ()), ()))) | none => none
noncomputable def impl_isBoard_x : Cx := ⟨tab, impl_isTokens_e, fun _ _ => 0, fun _ => false, [(7, 0), (7, 1), (7, 2), (7, 3), (11, 0), (11, 1), (11, 2), (11, 3)], [(2, 0)]⟩
noncomputable def c93 : Code := bodyOf Tryz.f93
noncomputable def impl_isBoard_A : Ann := .nil
noncomputable def impl_isBoard_D : Ve.Fn := ⟨93, impl_isBoard_a, impl_isBoard_o, impl_isBoard_E, impl_isBoard⟩
theorem impl_isBoard_w : Walk Tryz.prog impl_isBoard_x impl_isBoard_D Tryz.f93 c93 13 impl_isBoard_A :=
  ⟨⟨Tryz.func93, by kernel_rfl, by kernel_rfl, by kernel_rfl, by decide, by kernel_rfl, Nat.le_of_ble_eq_true (by kernel_rfl)⟩, by kernel_rfl, by kernel_rfl, by kernel_rfl, kcast (by kernel_rfl) trivial, by kernel_rfl, fun x y => by kernel_rfl⟩
theorem impl_isBoard_s : impl_isBoard_D.Says Tryz.prog := impl_isBoard_w.says follows tabOk impl_isTokens_e_ok
noncomputable def impl_isBoard_e : Env := more impl_isTokens_e impl_isBoard_D
theorem impl_isBoard_e_ok : EnvOk Tryz.prog impl_isBoard_e := more_ok impl_isTokens_e_ok impl_isBoard_s
/-! (loop.example/g01128/impl.Graph).isColouring$1 -/
abbrev impl_Graph_isColouring_1_vc_E : Ve.End := ⟨[⟨3, .shr, .bool, none⟩], []⟩
abbrev impl_Graph_isColouring_1_vc_a : List ASh := [.val I, .cst I]
abbrev impl_Graph_isColouring_1_vc_o : List OSh := []
noncomputable def impl_Graph_isColouring_1_vc : argP impl_Graph_isColouring_1_vc_a → obP (extObs 0 impl_Graph_isColouring_1_vc_o) → Option impl_Graph_isColouring_1_vc_E.P
  | (c, t1, ()), () => match impl_between (c, (0 : Int), (w64 (t1 - (1 : Int))), ()) () with | some ((r, ()), ()) => some (((!r), ()), ()) | none => none
noncomputable def impl_Graph_isColouring_1_vc_x : Cx := ⟨tab, impl_isBoard_e, fun _ _ => 0, fun _ => false, [(7, 0), (7, 1), (7, 2), (7, 3)], []⟩
noncomputable def c156 : Code := bodyOf Tryz.f156
noncomputable def impl_Graph_isColouring_1_vc_A : Ann := .nil
noncomputable def impl_Graph_isColouring_1_vc_D : Ve.Fn := ⟨156, impl_Graph_isColouring_1_vc_a, impl_Graph_isColouring_1_vc_o, impl_Graph_isColouring_1_vc_E, impl_Graph_isColouring_1_vc⟩
theorem impl_Graph_isColouring_1_vc_w : Walk Tryz.prog impl_Graph_isColouring_1_vc_x impl_Graph_isColouring_1_vc_D Tryz.f156 c156 9 impl_Graph_isColouring_1_vc_A :=
  ⟨⟨Tryz.func156, by kernel_rfl, by kernel_rfl, by kernel_rfl, by decide, by kernel_rfl, Nat.le_of_ble_eq_true (by kernel_rfl)⟩, by kernel_rfl, by kernel_rfl, by kernel_rfl, kcast (by kernel_rfl) trivial, by kernel_rfl, fun x y => by kernel_rfl⟩
theorem impl_Graph_isColouring_1_vc_s : impl_Graph_isColouring_1_vc_D.Says Tryz.prog := impl_Graph_isColouring_1_vc_w.says follows tabOk impl_isBoard_e_ok
noncomputable def impl_Graph_isColouring_1_vc_e : Env := more impl_isBoard_e impl_Graph_isColouring_1_vc_D
theorem impl_Graph_isColouring_1_vc_e_ok : EnvOk Tryz.prog impl_Graph_isColouring_1_vc_e := more_ok impl_isBoard_e_ok impl_Graph_isColouring_1_vc_s
/-! slices.IndexFunc[[]int,int] -/
abbrev slices_IndexFunc_int_int_2_vf_impl_Graph_isColouring_1_0__bs_J0 : Tpl := ⟨[(0, .val (.list I)), (1, .fn ⟨156, [(1000000, 0)]⟩), (7, .val I), (8, .val I)], [((1000000, 0), .box .shr I)], []⟩
abbrev slices_IndexFunc_int_int_2_vf_impl_Graph_isColouring_1_0__bs_J1 : Tpl := ⟨[(4, .val I)], [((1000000, 0), .box .shr I)], []⟩
abbrev slices_IndexFunc_int_int_2_vf_impl_Graph_isColouring_1_0__bs_J2 : Tpl := ⟨[], [((1000000, 0), .box .shr I)], []⟩
abbrev slices_IndexFunc_int_int_2_vf_impl_Graph_isColouring_1_0__bs_E : Ve.End := ⟨[⟨4, .shr, I, none⟩], [.box .shr I]⟩
abbrev slices_IndexFunc_int_int_2_vf_impl_Graph_isColouring_1_0__bs_a : List ASh := [.val (.list I), .fn 156 [0]]
abbrev slices_IndexFunc_int_int_2_vf_impl_Graph_isColouring_1_0__bs_o : List OSh := [.box .shr I]
abbrev slices_IndexFunc_int_int_2_vf_impl_Graph_isColouring_1_0__bs_O0 : Out := .or .ret slices_IndexFunc_int_int_2_vf_impl_Graph_isColouring_1_0__bs_J1 (.one (.ex 0) slices_IndexFunc_int_int_2_vf_impl_Graph_isColouring_1_0__bs_J2)
noncomputable def slices_IndexFunc_int_int_2_vf_impl_Graph_isColouring_1_0__bs_B0 : slices_IndexFunc_int_int_2_vf_impl_Graph_isColouring_1_0__bs_J0.P → Option (slices_IndexFunc_int_int_2_vf_impl_Graph_isColouring_1_0__bs_J0.P ⊕ slices_IndexFunc_int_int_2_vf_impl_Graph_isColouring_1_0__bs_O0.P)
  | ((s, t7, t8, ()), (o0, ())) => bif (decide (t8 < t7)) then (guardB (inb t8 (List.length s)) (match impl_Graph_isColouring_1_vc ((List.getD s (Int.toNat t8) (0 : Int)), o0, ()) () with | some ((r, ()), ()) => (bif r then (some (.inr (.inl ((t8, ()), (o0, ()))))) else (some (.inl ((s, t7, (w64 (t8 + (1 : Int))), ()), (o0, ()))))) | none => none)) else (some (.inr (.inr ((), (o0, ())))))
noncomputable def slices_IndexFunc_int_int_2_vf_impl_Graph_isColouring_1_0__bs : argP slices_IndexFunc_int_int_2_vf_impl_Graph_isColouring_1_0__bs_a → obP (extObs 0 slices_IndexFunc_int_int_2_vf_impl_Graph_isColouring_1_0__bs_o) → Option slices_IndexFunc_int_int_2_vf_impl_Graph_isColouring_1_0__bs_E.P
  | (s, ()), (o0, ()) => match loopO slices_IndexFunc_int_int_2_vf_impl_Graph_isColouring_1_0__bs_B0 ((s, (List.length s : Int), (0 : Int), ()), (o0, ())) with | some (.inl ((t4, ()), (o0_2, ()))) => some ((t4, ()), (o0_2, ())) | some (.inr ((), (o0_3, ()))) => some (((-1 : Int), ()), (o0_3, ())) | none => none
noncomputable def slices_IndexFunc_int_int_2_vf_impl_Graph_isColouring_1_0__bs_x : Cx := ⟨tab, impl_Graph_isColouring_1_vc_e, fun _ _ => 0, fun _ => false, [(16, 0), (16, 1), (16, 2), (16, 3)], []⟩
noncomputable def c206 : Code := bodyOf Tryz.f206
noncomputable def slices_IndexFunc_int_int_2_vf_impl_Graph_isColouring_1_0__bs_A : Ann := .seq .nil (.seq (.seq .nil (.loop slices_IndexFunc_int_int_2_vf_impl_Graph_isColouring_1_0__bs_J0 slices_IndexFunc_int_int_2_vf_impl_Graph_isColouring_1_0__bs_O0 slices_IndexFunc_int_int_2_vf_impl_Graph_isColouring_1_0__bs_B0 .nil)) .nil)
theorem slices_IndexFunc_int_int_2_vf_impl_Graph_isColouring_1_0__bs_r0 (p : slices_IndexFunc_int_int_2_vf_impl_Graph_isColouring_1_0__bs_J0.P) : run slices_IndexFunc_int_int_2_vf_impl_Graph_isColouring_1_0__bs_x (subc [1, 0, 1, 0, 0] c206) .nil (slices_IndexFunc_int_int_2_vf_impl_Graph_isColouring_1_0__bs_J0.S p) (leaf slices_IndexFunc_int_int_2_vf_impl_Graph_isColouring_1_0__bs_J0 slices_IndexFunc_int_int_2_vf_impl_Graph_isColouring_1_0__bs_O0) = slices_IndexFunc_int_int_2_vf_impl_Graph_isColouring_1_0__bs_B0 p := by kernel_rfl
noncomputable def slices_IndexFunc_int_int_2_vf_impl_Graph_isColouring_1_0__bs_D : Ve.Fn := ⟨206, slices_IndexFunc_int_int_2_vf_impl_Graph_isColouring_1_0__bs_a, slices_IndexFunc_int_int_2_vf_impl_Graph_isColouring_1_0__bs_o, slices_IndexFunc_int_int_2_vf_impl_Graph_isColouring_1_0__bs_E, slices_IndexFunc_int_int_2_vf_impl_Graph_isColouring_1_0__bs⟩
theorem slices_IndexFunc_int_int_2_vf_impl_Graph_isColouring_1_0__bs_w : Walk Tryz.prog slices_IndexFunc_int_int_2_vf_impl_Graph_isColouring_1_0__bs_x slices_IndexFunc_int_int_2_vf_impl_Graph_isColouring_1_0__bs_D Tryz.f206 c206 19 slices_IndexFunc_int_int_2_vf_impl_Graph_isColouring_1_0__bs_A :=
  ⟨⟨Tryz.func206, by kernel_rfl, by kernel_rfl, by kernel_rfl, by decide, by kernel_rfl, Nat.le_of_ble_eq_true (by kernel_rfl)⟩, by kernel_rfl, by kernel_rfl, by kernel_rfl, kcast (by kernel_rfl) (⟨slices_IndexFunc_int_int_2_vf_impl_Graph_isColouring_1_0__bs_r0, trivial⟩ : (∀ p, run slices_IndexFunc_int_int_2_vf_impl_Graph_isColouring_1_0__bs_x (subc [1, 0, 1, 0, 0] c206) .nil (slices_IndexFunc_int_int_2_vf_impl_Graph_isColouring_1_0__bs_J0.S p) (leaf slices_IndexFunc_int_int_2_vf_impl_Graph_isColouring_1_0__bs_J0 slices_IndexFunc_int_int_2_vf_impl_Graph_isColouring_1_0__bs_O0) = slices_IndexFunc_int_int_2_vf_impl_Graph_isColouring_1_0__bs_B0 p) ∧ True), by kernel_rfl, fun x y => by kernel_rfl⟩
theorem slices_IndexFunc_int_int_2_vf_impl_Graph_isColouring_1_0__bs_s : slices_IndexFunc_int_int_2_vf_impl_Graph_isColouring_1_0__bs_D.Says Tryz.prog := slices_IndexFunc_int_int_2_vf_impl_Graph_isColouring_1_0__bs_w.says follows tabOk impl_Graph_isColouring_1_vc_e_ok
noncomputable def slices_IndexFunc_int_int_2_vf_impl_Graph_isColouring_1_0__bs_e : Env := more impl_Graph_isColouring_1_vc_e slices_IndexFunc_int_int_2_vf_impl_Graph_isColouring_1_0__bs_D
theorem slices_IndexFunc_int_int_2_vf_impl_Graph_isColouring_1_0__bs_e_ok : EnvOk Tryz.prog slices_IndexFunc_int_int_2_vf_impl_Graph_isColouring_1_0__bs_e := more_ok impl_Graph_isColouring_1_vc_e_ok slices_IndexFunc_int_int_2_vf_impl_Graph_isColouring_1_0__bs_s
/-! slices.ContainsFunc[[]int,int] -/
abbrev slices_ContainsFunc_int_int_vf_impl_Graph_isColouring_1_0__bs_E : Ve.End := ⟨[⟨4, .shr, .bool, none⟩], [.box .shr I]⟩
abbrev slices_ContainsFunc_int_int_vf_impl_Graph_isColouring_1_0__bs_a : List ASh := [.val (.list I), .fn 156 [0]]
abbrev slices_ContainsFunc_int_int_vf_impl_Graph_isColouring_1_0__bs_o : List OSh := [.box .shr I]
noncomputable def slices_ContainsFunc_int_int_vf_impl_Graph_isColouring_1_0__bs : argP slices_ContainsFunc_int_int_vf_impl_Graph_isColouring_1_0__bs_a → obP (extObs 0 slices_ContainsFunc_int_int_vf_impl_Graph_isColouring_1_0__bs_o) → Option slices_ContainsFunc_int_int_vf_impl_Graph_isColouring_1_0__bs_E.P
  | (s, ()), (o0, ()) => match slices_IndexFunc_int_int_2_vf_impl_Graph_isColouring_1_0__bs (s, ()) (o0, ()) with | some ((r, ()), (o, ())) => some (((decide ((0 : Int) ≤ r)), ()), (o, ())) | none => none
noncomputable def slices_ContainsFunc_int_int_vf_impl_Graph_isColouring_1_0__bs_x : Cx := ⟨tab, slices_IndexFunc_int_int_2_vf_impl_Graph_isColouring_1_0__bs_e, fun _ _ => 0, fun _ => false, [(7, 0), (7, 1), (7, 2), (7, 3)], []⟩
noncomputable def c155 : Code := bodyOf Tryz.f155
noncomputable def slices_ContainsFunc_int_int_vf_impl_Graph_isColouring_1_0__bs_A : Ann := .nil
noncomputable def slices_ContainsFunc_int_int_vf_impl_Graph_isColouring_1_0__bs_D : Ve.Fn := ⟨155, slices_ContainsFunc_int_int_vf_impl_Graph_isColouring_1_0__bs_a, slices_ContainsFunc_int_int_vf_impl_Graph_isColouring_1_0__bs_o, slices_ContainsFunc_int_int_vf_impl_Graph_isColouring_1_0__bs_E, slices_ContainsFunc_int_int_vf_impl_Graph_isColouring_1_0__bs⟩
theorem slices_ContainsFunc_int_int_vf_impl_Graph_isColouring_1_0__bs_w : Walk Tryz.prog slices_ContainsFunc_int_int_vf_impl_Graph_isColouring_1_0__bs_x slices_ContainsFunc_int_int_vf_impl_Graph_isColouring_1_0__bs_D Tryz.f155 c155 9 slices_ContainsFunc_int_int_vf_impl_Graph_isColouring_1_0__bs_A :=
  ⟨⟨Tryz.func155, by kernel_rfl, by kernel_rfl, by kernel_rfl, by decide, by kernel_rfl, Nat.le_of_ble_eq_true (by kernel_rfl)⟩, by kernel_rfl, by kernel_rfl, by kernel_rfl, kcast (by kernel_rfl) trivial, by kernel_rfl, fun x y => by kernel_rfl⟩
theorem slices_ContainsFunc_int_int_vf_impl_Graph_isColouring_1_0__bs_s : slices_ContainsFunc_int_int_vf_impl_Graph_isColouring_1_0__bs_D.Says Tryz.prog := slices_ContainsFunc_int_int_vf_impl_Graph_isColouring_1_0__bs_w.says follows tabOk slices_IndexFunc_int_int_2_vf_impl_Graph_isColouring_1_0__bs_e_ok
noncomputable def slices_ContainsFunc_int_int_vf_impl_Graph_isColouring_1_0__bs_e : Env := more slices_IndexFunc_int_int_2_vf_impl_Graph_isColouring_1_0__bs_e slices_ContainsFunc_int_int_vf_impl_Graph_isColouring_1_0__bs_D
theorem slices_ContainsFunc_int_int_vf_impl_Graph_isColouring_1_0__bs_e_ok : EnvOk Tryz.prog slices_ContainsFunc_int_int_vf_impl_Graph_isColouring_1_0__bs_e := more_ok slices_IndexFunc_int_int_2_vf_impl_Graph_isColouring_1_0__bs_e_ok slices_ContainsFunc_int_int_vf_impl_Graph_isColouring_1_0__bs_s
/-! (loop.example/g01128/impl.Graph).isColouring$2 -/
abbrev impl_Graph_isColouring_2_vc_E : Ve.End := ⟨[⟨3, .shr, .bool, none⟩], []⟩
abbrev impl_Graph_isColouring_2_vc_a : List ASh := [.val (.prod I I), .cst (.list I)]
abbrev impl_Graph_isColouring_2_vc_o : List OSh := []
noncomputable def impl_Graph_isColouring_2_vc : argP impl_Graph_isColouring_2_vc_a → obP (extObs 0 impl_Graph_isColouring_2_vc_o) → Option impl_Graph_isColouring_2_vc_E.P
  | (e, t1, ()), () => guardB (inb e.1 (List.length t1)) (guardB (inb e.2 (List.length t1)) (some ((((List.getD t1 (Int.toNat e.1) (0 : Int)) == (List.getD t1 (Int.toNat e.2) (0 : Int))), ()), ())))
noncomputable def impl_Graph_isColouring_2_vc_x : Cx := ⟨tab, slices_ContainsFunc_int_int_vf_impl_Graph_isColouring_1_0__bs_e, fun _ _ => 0, fun _ => false, [], [(2, 0)]⟩
noncomputable def c158 : Code := bodyOf Tryz.f158
noncomputable def impl_Graph_isColouring_2_vc_A : Ann := .seq .nil (.seq (.draw [(0, .flo), (1, .flo), (2, .flo), (3, .flo), (4, .flo), (5, .flo), (6, .flo), (7, .flo), (8, .flo), (9, .flo), (10, .flo), (11, .flo)]) .nil)
noncomputable def impl_Graph_isColouring_2_vc_D : Ve.Fn := ⟨158, impl_Graph_isColouring_2_vc_a, impl_Graph_isColouring_2_vc_o, impl_Graph_isColouring_2_vc_E, impl_Graph_isColouring_2_vc⟩
theorem impl_Graph_isColouring_2_vc_w : Walk Tryz.prog impl_Graph_isColouring_2_vc_x impl_Graph_isColouring_2_vc_D Tryz.f158 c158 15 impl_Graph_isColouring_2_vc_A :=
  ⟨⟨Tryz.func158, by kernel_rfl, by kernel_rfl, by kernel_rfl, by decide, by kernel_rfl, Nat.le_of_ble_eq_true (by kernel_rfl)⟩, by kernel_rfl, by kernel_rfl, by kernel_rfl, kcast (by kernel_rfl) trivial, by kernel_rfl, fun x y => by kernel_rfl⟩
theorem impl_Graph_isColouring_2_vc_s : impl_Graph_isColouring_2_vc_D.Says Tryz.prog := impl_Graph_isColouring_2_vc_w.says follows tabOk slices_ContainsFunc_int_int_vf_impl_Graph_isColouring_1_0__bs_e_ok
noncomputable def impl_Graph_isColouring_2_vc_e : Env := more slices_ContainsFunc_int_int_vf_impl_Graph_isColouring_1_0__bs_e impl_Graph_isColouring_2_vc_D
theorem impl_Graph_isColouring_2_vc_e_ok : EnvOk Tryz.prog impl_Graph_isColouring_2_vc_e := more_ok slices_ContainsFunc_int_int_vf_impl_Graph_isColouring_1_0__bs_e_ok impl_Graph_isColouring_2_vc_s
/-! slices.IndexFunc[[][2]int,[2]int] -/
abbrev slices_IndexFunc_2_int_2_int_vf_impl_Graph_isColouring_2_0__bs_J0 : Tpl := ⟨[(0, .val (.list (.prod I I))), (1, .fn ⟨158, [(1000000, 0)]⟩), (7, .val I), (8, .val I)], [((1000000, 0), .box .shr (.list I))], []⟩
abbrev slices_IndexFunc_2_int_2_int_vf_impl_Graph_isColouring_2_0__bs_J1 : Tpl := ⟨[(4, .val I)], [((1000000, 0), .box .shr (.list I))], []⟩
abbrev slices_IndexFunc_2_int_2_int_vf_impl_Graph_isColouring_2_0__bs_J2 : Tpl := ⟨[], [((1000000, 0), .box .shr (.list I))], []⟩
abbrev slices_IndexFunc_2_int_2_int_vf_impl_Graph_isColouring_2_0__bs_E : Ve.End := ⟨[⟨4, .shr, I, none⟩], [.box .shr (.list I)]⟩
abbrev slices_IndexFunc_2_int_2_int_vf_impl_Graph_isColouring_2_0__bs_a : List ASh := [.val (.list (.prod I I)), .fn 158 [0]]
abbrev slices_IndexFunc_2_int_2_int_vf_impl_Graph_isColouring_2_0__bs_o : List OSh := [.box .shr (.list I)]
abbrev slices_IndexFunc_2_int_2_int_vf_impl_Graph_isColouring_2_0__bs_O0 : Out := .or .ret slices_IndexFunc_2_int_2_int_vf_impl_Graph_isColouring_2_0__bs_J1 (.one (.ex 0) slices_IndexFunc_2_int_2_int_vf_impl_Graph_isColouring_2_0__bs_J2)
noncomputable def slices_IndexFunc_2_int_2_int_vf_impl_Graph_isColouring_2_0__bs_B0 : slices_IndexFunc_2_int_2_int_vf_impl_Graph_isColouring_2_0__bs_J0.P → Option (slices_IndexFunc_2_int_2_int_vf_impl_Graph_isColouring_2_0__bs_J0.P ⊕ slices_IndexFunc_2_int_2_int_vf_impl_Graph_isColouring_2_0__bs_O0.P)
  | ((s, t7, t8, ()), (o0, ())) => bif (decide (t8 < t7)) then (guardB (inb t8 (List.length s)) (match impl_Graph_isColouring_2_vc ((List.getD s (Int.toNat t8) ((0 : Int), (0 : Int))), o0, ()) () with | some ((r, ()), ()) => (bif r then (some (.inr (.inl ((t8, ()), (o0, ()))))) else (some (.inl ((s, t7, (w64 (t8 + (1 : Int))), ()), (o0, ()))))) | none => none)) else (some (.inr (.inr ((), (o0, ())))))
noncomputable def slices_IndexFunc_2_int_2_int_vf_impl_Graph_isColouring_2_0__bs : argP slices_IndexFunc_2_int_2_int_vf_impl_Graph_isColouring_2_0__bs_a → obP (extObs 0 slices_IndexFunc_2_int_2_int_vf_impl_Graph_isColouring_2_0__bs_o) → Option slices_IndexFunc_2_int_2_int_vf_impl_Graph_isColouring_2_0__bs_E.P
  | (s, ()), (o0, ()) => match loopO slices_IndexFunc_2_int_2_int_vf_impl_Graph_isColouring_2_0__bs_B0 ((s, (List.length s : Int), (0 : Int), ()), (o0, ())) with | some (.inl ((t4, ()), (o0_2, ()))) => some ((t4, ()), (o0_2, ())) | some (.inr ((), (o0_3, ()))) => some (((-1 : Int), ()), (o0_3, ())) | none => none
noncomputable def slices_IndexFunc_2_int_2_int_vf_impl_Graph_isColouring_2_0__bs_x : Cx := ⟨tab, impl_Graph_isColouring_2_vc_e, fun _ _ => 0, fun _ => false, [(16, 0), (16, 1), (16, 2), (16, 3)], []⟩
noncomputable def slices_IndexFunc_2_int_2_int_vf_impl_Graph_isColouring_2_0__bs_A : Ann := .seq .nil (.seq (.seq .nil (.loop slices_IndexFunc_2_int_2_int_vf_impl_Graph_isColouring_2_0__bs_J0 slices_IndexFunc_2_int_2_int_vf_impl_Graph_isColouring_2_0__bs_O0 slices_IndexFunc_2_int_2_int_vf_impl_Graph_isColouring_2_0__bs_B0 .nil)) .nil)
theorem slices_IndexFunc_2_int_2_int_vf_impl_Graph_isColouring_2_0__bs_r0 (p : slices_IndexFunc_2_int_2_int_vf_impl_Graph_isColouring_2_0__bs_J0.P) : run slices_IndexFunc_2_int_2_int_vf_impl_Graph_isColouring_2_0__bs_x (subc [1, 0, 1, 0, 0] c207) .nil (slices_IndexFunc_2_int_2_int_vf_impl_Graph_isColouring_2_0__bs_J0.S p) (leaf slices_IndexFunc_2_int_2_int_vf_impl_Graph_isColouring_2_0__bs_J0 slices_IndexFunc_2_int_2_int_vf_impl_Graph_isColouring_2_0__bs_O0) = slices_IndexFunc_2_int_2_int_vf_impl_Graph_isColouring_2_0__bs_B0 p := by kernel_rfl
noncomputable def slices_IndexFunc_2_int_2_int_vf_impl_Graph_isColouring_2_0__bs_D : Ve.Fn := ⟨207, slices_IndexFunc_2_int_2_int_vf_impl_Graph_isColouring_2_0__bs_a, slices_IndexFunc_2_int_2_int_vf_impl_Graph_isColouring_2_0__bs_o, slices_IndexFunc_2_int_2_int_vf_impl_Graph_isColouring_2_0__bs_E, slices_IndexFunc_2_int_2_int_vf_impl_Graph_isColouring_2_0__bs⟩
theorem slices_IndexFunc_2_int_2_int_vf_impl_Graph_isColouring_2_0__bs_w : Walk Tryz.prog slices_IndexFunc_2_int_2_int_vf_impl_Graph_isColouring_2_0__bs_x slices_IndexFunc_2_int_2_int_vf_impl_Graph_isColouring_2_0__bs_D Tryz.f207 c207 19 slices_IndexFunc_2_int_2_int_vf_impl_Graph_isColouring_2_0__bs_A :=
  ⟨⟨Tryz.func207, by kernel_rfl, by kernel_rfl, by kernel_rfl, by decide, by kernel_rfl, Nat.le_of_ble_eq_true (by kernel_rfl)⟩, by kernel_rfl, by kernel_rfl, by kernel_rfl, kcast (by kernel_rfl) (⟨slices_IndexFunc_2_int_2_int_vf_impl_Graph_isColouring_2_0__bs_r0, trivial⟩ : (∀ p, run slices_IndexFunc_2_int_2_int_vf_impl_Graph_isColouring_2_0__bs_x (subc [1, 0, 1, 0, 0] c207) .nil (slices_IndexFunc_2_int_2_int_vf_impl_Graph_isColouring_2_0__bs_J0.S p) (leaf slices_IndexFunc_2_int_2_int_vf_impl_Graph_isColouring_2_0__bs_J0 slices_IndexFunc_2_int_2_int_vf_impl_Graph_isColouring_2_0__bs_O0) = slices_IndexFunc_2_int_2_int_vf_impl_Graph_isColouring_2_0__bs_B0 p) ∧ True), by kernel_rfl, fun x y => by kernel_rfl⟩
theorem slices_IndexFunc_2_int_2_int_vf_impl_Graph_isColouring_2_0__bs_s : slices_IndexFunc_2_int_2_int_vf_impl_Graph_isColouring_2_0__bs_D.Says Tryz.prog := slices_IndexFunc_2_int_2_int_vf_impl_Graph_isColouring_2_0__bs_w.says follows tabOk impl_Graph_isColouring_2_vc_e_ok
noncomputable def slices_IndexFunc_2_int_2_int_vf_impl_Graph_isColouring_2_0__bs_e : Env := more impl_Graph_isColouring_2_vc_e slices_IndexFunc_2_int_2_int_vf_impl_Graph_isColouring_2_0__bs_D
theorem slices_IndexFunc_2_int_2_int_vf_impl_Graph_isColouring_2_0__bs_e_ok : EnvOk Tryz.prog slices_IndexFunc_2_int_2_int_vf_impl_Graph_isColouring_2_0__bs_e := more_ok impl_Graph_isColouring_2_vc_e_ok slices_IndexFunc_2_int_2_int_vf_impl_Graph_isColouring_2_0__bs_s
/-! slices.ContainsFunc[[][2]int,[2]int] -/
abbrev slices_ContainsFunc_2_int_2_int_vf_impl_Graph_isColouring_2_0__bs_E : Ve.End := ⟨[⟨4, .shr, .bool, none⟩], [.box .shr (.list I)]⟩
abbrev slices_ContainsFunc_2_int_2_int_vf_impl_Graph_isColouring_2_0__bs_a : List ASh := [.val (.list (.prod I I)), .fn 158 [0]]
abbrev slices_ContainsFunc_2_int_2_int_vf_impl_Graph_isColouring_2_0__bs_o : List OSh := [.box .shr (.list I)]
noncomputable def slices_ContainsFunc_2_int_2_int_vf_impl_Graph_isColouring_2_0__bs : argP slices_ContainsFunc_2_int_2_int_vf_impl_Graph_isColouring_2_0__bs_a → obP (extObs 0 slices_ContainsFunc_2_int_2_int_vf_impl_Graph_isColouring_2_0__bs_o) → Option slices_ContainsFunc_2_int_2_int_vf_impl_Graph_isColouring_2_0__bs_E.P
  | (s, ()), (o0, ()) => match slices_IndexFunc_2_int_2_int_vf_impl_Graph_isColouring_2_0__bs (s, ()) (o0, ()) with | some ((r, ()), (o, ())) => some (((decide ((0 : Int) ≤ r)), ()), (o, ())) | none => none
noncomputable def slices_ContainsFunc_2_int_2_int_vf_impl_Graph_isColouring_2_0__bs_x : Cx := ⟨tab, slices_IndexFunc_2_int_2_int_vf_impl_Graph_isColouring_2_0__bs_e, fun _ _ => 0, fun _ => false, [(7, 0), (7, 1), (7, 2), (7, 3)], []⟩
noncomputable def slices_ContainsFunc_2_int_2_int_vf_impl_Graph_isColouring_2_0__bs_A : Ann := .nil
noncomputable def slices_ContainsFunc_2_int_2_int_vf_impl_Graph_isColouring_2_0__bs_D : Ve.Fn := ⟨157, slices_ContainsFunc_2_int_2_int_vf_impl_Graph_isColouring_2_0__bs_a, slices_ContainsFunc_2_int_2_int_vf_impl_Graph_isColouring_2_0__bs_o, slices_ContainsFunc_2_int_2_int_vf_impl_Graph_isColouring_2_0__bs_E, slices_ContainsFunc_2_int_2_int_vf_impl_Graph_isColouring_2_0__bs⟩
theorem slices_ContainsFunc_2_int_2_int_vf_impl_Graph_isColouring_2_0__bs_w : Walk Tryz.prog slices_ContainsFunc_2_int_2_int_vf_impl_Graph_isColouring_2_0__bs_x slices_ContainsFunc_2_int_2_int_vf_impl_Graph_isColouring_2_0__bs_D Tryz.f157 c157 9 slices_ContainsFunc_2_int_2_int_vf_impl_Graph_isColouring_2_0__bs_A :=
  ⟨⟨Tryz.func157, by kernel_rfl, by kernel_rfl, by kernel_rfl, by decide, by kernel_rfl, Nat.le_of_ble_eq_true (by kernel_rfl)⟩, by kernel_rfl, by kernel_rfl, by kernel_rfl, kcast (by kernel_rfl) trivial, by kernel_rfl, fun x y => by kernel_rfl⟩
theorem slices_ContainsFunc_2_int_2_int_vf_impl_Graph_isColouring_2_0__bs_s : slices_ContainsFunc_2_int_2_int_vf_impl_Graph_isColouring_2_0__bs_D.Says Tryz.prog := slices_ContainsFunc_2_int_2_int_vf_impl_Graph_isColouring_2_0__bs_w.says follows tabOk slices_IndexFunc_2_int_2_int_vf_impl_Graph_isColouring_2_0__bs_e_ok
noncomputable def slices_ContainsFunc_2_int_2_int_vf_impl_Graph_isColouring_2_0__bs_e : Env := more slices_IndexFunc_2_int_2_int_vf_impl_Graph_isColouring_2_0__bs_e slices_ContainsFunc_2_int_2_int_vf_impl_Graph_isColouring_2_0__bs_D
theorem slices_ContainsFunc_2_int_2_int_vf_impl_Graph_isColouring_2_0__bs_e_ok : EnvOk Tryz.prog slices_ContainsFunc_2_int_2_int_vf_impl_Graph_isColouring_2_0__bs_e := more_ok slices_IndexFunc_2_int_2_int_vf_impl_Graph_isColouring_2_0__bs_e_ok slices_ContainsFunc_2_int_2_int_vf_impl_Graph_isColouring_2_0__bs_s
/-! (loop.example/g01128/impl.Graph).isColouring -/
abbrev impl_Graph_isColouring_E : Ve.End := ⟨[⟨6, .shr, .bool, none⟩], []⟩
abbrev impl_Graph_isColouring_a : List ASh := [.val (.prod I (.list (.prod I I))), .val I, .val (.list I)]
abbrev impl_Graph_isColouring_o : List OSh := []
noncomputable def impl_Graph_isColouring : argP impl_Graph_isColouring_a → obP (extObs 0 impl_Graph_isColouring_o) → Option impl_Graph_isColouring_E.P
  | (g, k, colours, ()), () => bif ((List.length colours : Int) != g.1) then (some ((false, ()), ())) else (match slices_ContainsFunc_int_int_vf_impl_Graph_isColouring_1_0__bs (colours, ()) (k, ()) with | some ((r, ()), (o, ())) => (bif r then (some ((false, ()), ())) else (match slices_ContainsFunc_2_int_2_int_vf_impl_Graph_isColouring_2_0__bs (g.2, ()) (colours, ()) with | some ((r2, ()), (o2, ())) => some (((!r2), ()), ()) | none => none)) | none => none)
noncomputable def impl_Graph_isColouring_x : Cx := ⟨tab, slices_ContainsFunc_2_int_2_int_vf_impl_Graph_isColouring_2_0__bs_e, fun _ _ => 0, fun _ => false, [(15, 0), (15, 1), (15, 2), (15, 3), (20, 0), (20, 1), (20, 2), (20, 3)], [(3, 0)]⟩
noncomputable def c92 : Code := bodyOf Tryz.f92
noncomputable def impl_Graph_isColouring_A : Ann := .nil
noncomputable def impl_Graph_isColouring_D : Ve.Fn := ⟨92, impl_Graph_isColouring_a, impl_Graph_isColouring_o, impl_Graph_isColouring_E, impl_Graph_isColouring⟩
theorem impl_Graph_isColouring_w : Walk Tryz.prog impl_Graph_isColouring_x impl_Graph_isColouring_D Tryz.f92 c92 22 impl_Graph_isColouring_A :=
  ⟨⟨Tryz.func92, by kernel_rfl, by kernel_rfl, by kernel_rfl, by decide, by kernel_rfl, Nat.le_of_ble_eq_true (by kernel_rfl)⟩, by kernel_rfl, by kernel_rfl, by kernel_rfl, kcast (by kernel_rfl) trivial, by kernel_rfl, fun x y => by kernel_rfl⟩
theorem impl_Graph_isColouring_s : impl_Graph_isColouring_D.Says Tryz.prog := impl_Graph_isColouring_w.says follows tabOk slices_ContainsFunc_2_int_2_int_vf_impl_Graph_isColouring_2_0__bs_e_ok
noncomputable def impl_Graph_isColouring_e : Env := more slices_ContainsFunc_2_int_2_int_vf_impl_Graph_isColouring_2_0__bs_e impl_Graph_isColouring_D
theorem impl_Graph_isColouring_e_ok : EnvOk Tryz.prog impl_Graph_isColouring_e := more_ok slices_ContainsFunc_2_int_2_int_vf_impl_Graph_isColouring_2_0__bs_e_ok impl_Graph_isColouring_s
/-! loop.example/g01128/impl.IsStudio -/
abbrev impl_IsStudio_E : Ve.End := ⟨[⟨2, .shr, .bool, none⟩], []⟩
abbrev impl_IsStudio_a : List ASh := [.val (.prod (.prod I (.list (.prod I I))) (.prod I (.prod (.list I) (.prod (.list I) (.prod (.list I) I)))))]
abbrev impl_IsStudio_o : List OSh := []
noncomputable def impl_IsStudio : argP impl_IsStudio_a → obP (extObs 0 impl_IsStudio_o) → Option impl_IsStudio_E.P
  | (s, ()), () => match impl_between (s.2.2.2.2.2, (0 : Int), (1000 : Int), ()) () with | some ((r, ()), ()) => (bif r then (match impl_isColourCase (s.1, s.2.1, ()) () with | some ((r2, ()), ()) => (bif r2 then (match impl_Graph_isIndependent (s.1, s.2.2.1, ()) () with | some ((r3, ()), ()) => (bif r3 then (bif ((List.length s.2.2.2.1 : Int) == (0 : Int)) then (match impl_isBoard (s.1, s.2.2.2.2.1, ()) () with | some ((r4, ()), ()) => some ((r4, ()), ()) | none => none) else (match impl_Graph_isColouring (s.1, s.2.1, s.2.2.2.1, ()) () with | some ((r5, ()), ()) => (bif r5 then (match impl_isBoard (s.1, s.2.2.2.2.1, ()) () with | some ((r6, ()), ()) => some ((r6, ()), ()) | none => none) else (some ((false, ()), ()))) | none => none)) else (some ((false, ()), ()))) | none => none) else (some ((false, ()), ()))) | none => none) else (some ((false, ()), ()))) | none => none
noncomputable def impl_IsStudio_x : Cx := ⟨tab, impl_Graph_isColouring_e, fun _ _ => 0, fun _ => false, [(5, 0), (5, 1), (5, 2), (5, 3), (11, 0), (11, 1), (11, 2), (11, 3), (18, 0), (18, 1), (18, 2), (18, 3), (32, 0), (32, 1), (32, 2), (32, 3), (40, 0), (40, 1), (40, 2), (40, 3)], [(1, 0)]⟩
noncomputable def c45 : Code := bodyOf Tryz.f45
noncomputable def impl_IsStudio_A : Ann := .nil
noncomputable def impl_IsStudio_D : Ve.Fn := ⟨45, impl_IsStudio_a, impl_IsStudio_o, impl_IsStudio_E, impl_IsStudio⟩
theorem impl_IsStudio_w : Walk Tryz.prog impl_IsStudio_x impl_IsStudio_D Tryz.f45 c45 42 impl_IsStudio_A :=
  ⟨⟨Tryz.func45, by kernel_rfl, by kernel_rfl, by kernel_rfl, by decide, by kernel_rfl, Nat.le_of_ble_eq_true (by kernel_rfl)⟩, by kernel_rfl, by kernel_rfl, by kernel_rfl, kcast (by kernel_rfl) trivial, by kernel_rfl, fun x y => by kernel_rfl⟩
theorem impl_IsStudio_s : impl_IsStudio_D.Says Tryz.prog := impl_IsStudio_w.says follows tabOk impl_Graph_isColouring_e_ok
noncomputable def impl_IsStudio_e : Env := more impl_Graph_isColouring_e impl_IsStudio_D
theorem impl_IsStudio_e_ok : EnvOk Tryz.prog impl_IsStudio_e := more_ok impl_Graph_isColouring_e_ok impl_IsStudio_s
noncomputable def slices_Clone_2_int_2_int_e : Env := more impl_IsStudio_e (clone2Fn 110)
theorem slices_Clone_2_int_2_int_e_ok : EnvOk Tryz.prog slices_Clone_2_int_2_int_e := more_ok impl_IsStudio_e_ok clone2_s
noncomputable abbrev slices_Clone_2_int_2_int := (clone2Fn 110).F
noncomputable def slices_Clone_int_int_e : Env := more slices_Clone_2_int_2_int_e (cloneFn 101)
theorem slices_Clone_int_int_e_ok : EnvOk Tryz.prog slices_Clone_int_int_e := more_ok slices_Clone_2_int_2_int_e_ok clone_s
noncomputable abbrev slices_Clone_int_int := (cloneFn 101).F
/-! (loop.example/g01128/impl.Studio).copied -/
abbrev impl_Studio_copied_os_J0 : Tpl := ⟨[(1, .ptr (1, 0)), (2, .ptr (2, 0))], [((1, 0), .box (.prod (.prod .shr (.own .shr)) (.prod .shr (.prod (.own .shr) (.prod (.own .shr) (.prod (.own .shr) .shr))))) (.prod (.prod I (.list (.prod I I))) (.prod I (.prod (.list I) (.prod (.list I) (.prod (.list I) I)))))), ((2, 0), .box (.prod (.prod .shr (.own .shr)) (.prod .shr (.prod (.own .shr) (.prod (.own .shr) (.prod (.own .shr) .shr))))) (.prod (.prod I (.list (.prod I I))) (.prod I (.prod (.list I) (.prod (.list I) (.prod (.list I) I))))))], []⟩
abbrev impl_Studio_copied_os_J1 : Tpl := ⟨[(1, .ptr (1, 0)), (2, .ptr (2, 0)), (10, .val (.list I)), (12, .adp (1, 0) [.snd, .snd, .snd, .fst]), (15, .adp (1, 0) [.snd, .snd, .snd, .snd, .fst])], [((1, 0), .box (.prod (.prod .shr (.own .shr)) .shr) (.prod (.prod I (.list (.prod I I))) (.prod I (.prod (.list I) (.prod (.list I) (.prod (.list I) I)))))), ((2, 0), .box (.prod (.prod .shr (.own .shr)) (.prod .shr (.prod (.own .shr) (.prod (.own .shr) (.prod (.own .shr) .shr))))) (.prod (.prod I (.list (.prod I I))) (.prod I (.prod (.list I) (.prod (.list I) (.prod (.list I) I))))))], []⟩
abbrev impl_Studio_copied_os_J2 : Tpl := ⟨[(1, .ptr (1, 0)), (2, .ptr (2, 0)), (11, .own .shr I), (13, .val (.list I)), (15, .adp (1, 0) [.snd, .snd, .snd, .snd, .fst])], [((1, 0), .box (.prod (.prod .shr (.own .shr)) .shr) (.prod (.prod I (.list (.prod I I))) (.prod I (.prod (.list I) (.prod (.list I) (.prod (.list I) I)))))), ((2, 0), .box (.prod (.prod .shr (.own .shr)) (.prod .shr (.prod (.own .shr) (.prod (.own .shr) (.prod (.own .shr) .shr))))) (.prod (.prod I (.list (.prod I I))) (.prod I (.prod (.list I) (.prod (.list I) (.prod (.list I) I))))))], []⟩
abbrev impl_Studio_copied_os_J3 : Tpl := ⟨[(1, .ptr (1, 0)), (2, .ptr (2, 0)), (10, .val (.list I)), (13, .val (.list I)), (15, .adp (1, 0) [.snd, .snd, .snd, .snd, .fst])], [((1, 0), .box (.prod (.prod .shr (.own .shr)) .shr) (.prod (.prod I (.list (.prod I I))) (.prod I (.prod (.list I) (.prod (.list I) (.prod (.list I) I)))))), ((2, 0), .box (.prod (.prod .shr (.own .shr)) (.prod .shr (.prod (.own .shr) (.prod (.own .shr) (.prod (.own .shr) .shr))))) (.prod (.prod I (.list (.prod I I))) (.prod I (.prod (.list I) (.prod (.list I) (.prod (.list I) I))))))], []⟩
abbrev impl_Studio_copied_os_J4 : Tpl := ⟨[(1, .ptr (1, 0)), (2, .ptr (2, 0)), (10, .val (.list I)), (12, .adp (1, 0) [.snd, .snd, .snd, .fst]), (16, .val (.list I))], [((1, 0), .box (.prod (.prod .shr (.own .shr)) .shr) (.prod (.prod I (.list (.prod I I))) (.prod I (.prod (.list I) (.prod (.list I) (.prod (.list I) I)))))), ((2, 0), .box (.prod (.prod .shr (.own .shr)) (.prod .shr (.prod (.own .shr) (.prod (.own .shr) (.prod (.own .shr) .shr))))) (.prod (.prod I (.list (.prod I I))) (.prod I (.prod (.list I) (.prod (.list I) (.prod (.list I) I))))))], []⟩
abbrev impl_Studio_copied_os_E : Ve.End := ⟨[⟨2, (.prod (.prod .shr (.own .shr)) (.prod .shr (.prod (.own .shr) (.prod (.own .shr) (.prod (.own .shr) .shr))))), (.prod (.prod I (.list (.prod I I))) (.prod I (.prod (.list I) (.prod (.list I) (.prod (.list I) I))))), some 31⟩], []⟩
abbrev impl_Studio_copied_os_a : List ASh := [.own .shr (.prod (.prod I (.list (.prod I I))) (.prod I (.prod (.list I) (.prod (.list I) (.prod (.list I) I)))))]
abbrev impl_Studio_copied_os_o : List OSh := []
noncomputable def impl_Studio_copied_os_D1 : impl_Studio_copied_os_J2.P → Option impl_Studio_copied_os_J0.P
  | ((t11, t13, ()), (s, t2, ())) => match slices_Clone_int_int (t13, ()) () with | some ((r, ()), ()) => (match slices_Clone_int_int (s.2.2.2.2.1, ()) () with | some ((r2, ()), ()) => some ((), ((s.1, (s.2.1, (t11, (r, (r2, s.2.2.2.2.2))))), t2, ())) | none => none) | none => none
noncomputable def impl_Studio_copied_os_T1 : DT impl_Studio_copied_os_J0 := .node impl_Studio_copied_os_J2 impl_Studio_copied_os_D1 (.br [(5, .sole), (7, .qui), (9, .flo), (8, .sole), (10, .sole), (11, .flo), (12, .sole), (13, .flo), (14, .sole)] .fin (.br [(7, .sole), (9, .flo), (5, .sole), (8, .sole), (10, .sole), (11, .flo), (12, .sole), (13, .flo), (14, .sole)] .fin .nobr))
noncomputable def impl_Studio_copied_os_D2 : impl_Studio_copied_os_J3.P → Option impl_Studio_copied_os_J0.P
  | ((t10, t13, ()), (s, t2, ())) => match slices_Clone_int_int (t10, ()) () with | some ((r, ()), ()) => impl_Studio_copied_os_D1 ((r, t13, ()), (s, t2, ())) | none => none
noncomputable def impl_Studio_copied_os_T2 : DT impl_Studio_copied_os_J0 := .node impl_Studio_copied_os_J3 impl_Studio_copied_os_D2 (.br [(2, .sole)] impl_Studio_copied_os_T1 (.br [(7, .sole), (2, .sole), (9, .flo), (5, .sole), (8, .sole), (10, .sole), (11, .flo), (12, .sole), (13, .flo), (14, .sole)] .fin .nobr))
noncomputable def impl_Studio_copied_os_D3 : impl_Studio_copied_os_J4.P → Option impl_Studio_copied_os_J0.P
  | ((t10, t16, ()), (s, t2, ())) => match slices_Clone_int_int (t10, ()) () with | some ((r, ()), ()) => (match slices_Clone_int_int (s.2.2.2.1, ()) () with | some ((r2, ()), ()) => (match slices_Clone_int_int (t16, ()) () with | some ((r3, ()), ()) => some ((), ((s.1, (s.2.1, (r, (r2, (r3, s.2.2.2.2.2))))), t2, ())) | none => none) | none => none) | none => none
noncomputable def impl_Studio_copied_os_T3 : DT impl_Studio_copied_os_J0 := .node impl_Studio_copied_os_J4 impl_Studio_copied_os_D3 (.br [(2, .sole), (4, .qui), (9, .flo), (5, .sole), (8, .sole), (10, .sole), (11, .flo), (12, .sole), (13, .flo), (14, .sole)] .fin (.br [(4, .sole), (2, .sole), (9, .flo), (5, .sole), (8, .sole), (10, .sole), (11, .flo), (12, .sole), (13, .flo), (14, .sole)] .fin .nobr))
noncomputable def impl_Studio_copied_os_D0 : impl_Studio_copied_os_J1.P → Option impl_Studio_copied_os_J0.P
  | ((t10, ()), (s, t2, ())) => match slices_Clone_int_int (t10, ()) () with | some ((r, ()), ()) => impl_Studio_copied_os_D1 ((r, s.2.2.2.1, ()), (s, t2, ())) | none => none
noncomputable def impl_Studio_copied_os_T0 : DT impl_Studio_copied_os_J0 := .node impl_Studio_copied_os_J1 impl_Studio_copied_os_D0 (.br [(2, .sole), (4, .qui)] impl_Studio_copied_os_T1 (.br [(4, .sole)] impl_Studio_copied_os_T2 (.br [(7, .sole)] impl_Studio_copied_os_T3 .nobr)))
noncomputable def impl_Studio_copied_os : argP impl_Studio_copied_os_a → obP (extObs 0 impl_Studio_copied_os_o) → Option impl_Studio_copied_os_E.P
  | (s, ()), () => match slices_Clone_2_int_2_int (s.1.2, ()) () with | some ((r, ()), ()) => (match impl_Studio_copied_os_D0 ((s.2.2.1, ()), (((s.1.1, r), s.2), (((0 : Int), ([] : (List (Int × Int)))), ((0 : Int), (([] : (List Int)), (([] : (List Int)), (([] : (List Int)), (0 : Int)))))), ())) with | some ((), (s2, t2, ())) => some ((((s2.1.1, s2.1.2), (s2.2.1, (s2.2.2.1, (s2.2.2.2.1, (s2.2.2.2.2.1, s2.2.2.2.2.2))))), ()), ()) | none => none) | none => none
noncomputable def impl_Studio_copied_os_x : Cx := ⟨tab, slices_Clone_int_int_e, fun _ _ => 0, fun _ => false, [], []⟩
noncomputable def c59 : Code := bodyOf Tryz.f59
noncomputable def impl_Studio_copied_os_A : Ann := .seq .nil (.seq .nil (.seq (.draws [(0, .flo), (3, .flo), (6, .flo), (1, .qui)] impl_Studio_copied_os_J0 impl_Studio_copied_os_T0) .nil))
theorem impl_Studio_copied_os_D0b0 (p : impl_Studio_copied_os_J1.P) : runDrawn impl_Studio_copied_os_x (opsOf (subc [1, 1, 0] c59)) [(2, .sole), (4, .qui)] (impl_Studio_copied_os_J1.S p) (endT impl_Studio_copied_os_x impl_Studio_copied_os_T1) = impl_Studio_copied_os_D0 p := by kernel_rfl
theorem impl_Studio_copied_os_D1b0 (p : impl_Studio_copied_os_J2.P) : runDrawn impl_Studio_copied_os_x (opsOf (subc [1, 1, 0] c59)) [(5, .sole), (7, .qui), (9, .flo), (8, .sole), (10, .sole), (11, .flo), (12, .sole), (13, .flo), (14, .sole)] (impl_Studio_copied_os_J2.S p) (endT impl_Studio_copied_os_x (.fin : DT impl_Studio_copied_os_J0)) = impl_Studio_copied_os_D1 p := by kernel_rfl
theorem impl_Studio_copied_os_D1b1 (p : impl_Studio_copied_os_J2.P) : runDrawn impl_Studio_copied_os_x (opsOf (subc [1, 1, 0] c59)) [(7, .sole), (9, .flo), (5, .sole), (8, .sole), (10, .sole), (11, .flo), (12, .sole), (13, .flo), (14, .sole)] (impl_Studio_copied_os_J2.S p) (endT impl_Studio_copied_os_x (.fin : DT impl_Studio_copied_os_J0)) = impl_Studio_copied_os_D1 p := by kernel_rfl
theorem impl_Studio_copied_os_D0b1 (p : impl_Studio_copied_os_J1.P) : runDrawn impl_Studio_copied_os_x (opsOf (subc [1, 1, 0] c59)) [(4, .sole)] (impl_Studio_copied_os_J1.S p) (endT impl_Studio_copied_os_x impl_Studio_copied_os_T2) = impl_Studio_copied_os_D0 p := by kernel_rfl
theorem impl_Studio_copied_os_D2b0 (p : impl_Studio_copied_os_J3.P) : runDrawn impl_Studio_copied_os_x (opsOf (subc [1, 1, 0] c59)) [(2, .sole)] (impl_Studio_copied_os_J3.S p) (endT impl_Studio_copied_os_x impl_Studio_copied_os_T1) = impl_Studio_copied_os_D2 p := by kernel_rfl
theorem impl_Studio_copied_os_D2b1 (p : impl_Studio_copied_os_J3.P) : runDrawn impl_Studio_copied_os_x (opsOf (subc [1, 1, 0] c59)) [(7, .sole), (2, .sole), (9, .flo), (5, .sole), (8, .sole), (10, .sole), (11, .flo), (12, .sole), (13, .flo), (14, .sole)] (impl_Studio_copied_os_J3.S p) (endT impl_Studio_copied_os_x (.fin : DT impl_Studio_copied_os_J0)) = impl_Studio_copied_os_D2 p := by kernel_rfl
theorem impl_Studio_copied_os_D0b2 (p : impl_Studio_copied_os_J1.P) : runDrawn impl_Studio_copied_os_x (opsOf (subc [1, 1, 0] c59)) [(7, .sole)] (impl_Studio_copied_os_J1.S p) (endT impl_Studio_copied_os_x impl_Studio_copied_os_T3) = impl_Studio_copied_os_D0 p := by kernel_rfl
theorem impl_Studio_copied_os_D3b0 (p : impl_Studio_copied_os_J4.P) : runDrawn impl_Studio_copied_os_x (opsOf (subc [1, 1, 0] c59)) [(2, .sole), (4, .qui), (9, .flo), (5, .sole), (8, .sole), (10, .sole), (11, .flo), (12, .sole), (13, .flo), (14, .sole)] (impl_Studio_copied_os_J4.S p) (endT impl_Studio_copied_os_x (.fin : DT impl_Studio_copied_os_J0)) = impl_Studio_copied_os_D3 p := by kernel_rfl
theorem impl_Studio_copied_os_D3b1 (p : impl_Studio_copied_os_J4.P) : runDrawn impl_Studio_copied_os_x (opsOf (subc [1, 1, 0] c59)) [(4, .sole), (2, .sole), (9, .flo), (5, .sole), (8, .sole), (10, .sole), (11, .flo), (12, .sole), (13, .flo), (14, .sole)] (impl_Studio_copied_os_J4.S p) (endT impl_Studio_copied_os_x (.fin : DT impl_Studio_copied_os_J0)) = impl_Studio_copied_os_D3 p := by kernel_rfl
noncomputable def impl_Studio_copied_os_D : Ve.Fn := ⟨59, impl_Studio_copied_os_a, impl_Studio_copied_os_o, impl_Studio_copied_os_E, impl_Studio_copied_os⟩
theorem impl_Studio_copied_os_w : Walk Tryz.prog impl_Studio_copied_os_x impl_Studio_copied_os_D Tryz.f59 c59 22 impl_Studio_copied_os_A :=
  ⟨⟨Tryz.func59, by kernel_rfl, by kernel_rfl, by kernel_rfl, by decide, by kernel_rfl, Nat.le_of_ble_eq_true (by kernel_rfl)⟩, by kernel_rfl, by kernel_rfl, by kernel_rfl, kcast (by kernel_rfl) (⟨impl_Studio_copied_os_D0b0, impl_Studio_copied_os_D1b0, impl_Studio_copied_os_D1b1, impl_Studio_copied_os_D0b1, impl_Studio_copied_os_D2b0, impl_Studio_copied_os_D1b0, impl_Studio_copied_os_D1b1, impl_Studio_copied_os_D2b1, impl_Studio_copied_os_D0b2, impl_Studio_copied_os_D3b0, impl_Studio_copied_os_D3b1, trivial⟩ : (∀ p, runDrawn impl_Studio_copied_os_x (opsOf (subc [1, 1, 0] c59)) [(2, .sole), (4, .qui)] (impl_Studio_copied_os_J1.S p) (endT impl_Studio_copied_os_x impl_Studio_copied_os_T1) = impl_Studio_copied_os_D0 p) ∧ (∀ p, runDrawn impl_Studio_copied_os_x (opsOf (subc [1, 1, 0] c59)) [(5, .sole), (7, .qui), (9, .flo), (8, .sole), (10, .sole), (11, .flo), (12, .sole), (13, .flo), (14, .sole)] (impl_Studio_copied_os_J2.S p) (endT impl_Studio_copied_os_x (.fin : DT impl_Studio_copied_os_J0)) = impl_Studio_copied_os_D1 p) ∧ (∀ p, runDrawn impl_Studio_copied_os_x (opsOf (subc [1, 1, 0] c59)) [(7, .sole), (9, .flo), (5, .sole), (8, .sole), (10, .sole), (11, .flo), (12, .sole), (13, .flo), (14, .sole)] (impl_Studio_copied_os_J2.S p) (endT impl_Studio_copied_os_x (.fin : DT impl_Studio_copied_os_J0)) = impl_Studio_copied_os_D1 p) ∧ (∀ p, runDrawn impl_Studio_copied_os_x (opsOf (subc [1, 1, 0] c59)) [(4, .sole)] (impl_Studio_copied_os_J1.S p) (endT impl_Studio_copied_os_x impl_Studio_copied_os_T2) = impl_Studio_copied_os_D0 p) ∧ (∀ p, runDrawn impl_Studio_copied_os_x (opsOf (subc [1, 1, 0] c59)) [(2, .sole)] (impl_Studio_copied_os_J3.S p) (endT impl_Studio_copied_os_x impl_Studio_copied_os_T1) = impl_Studio_copied_os_D2 p) ∧ (∀ p, runDrawn impl_Studio_copied_os_x (opsOf (subc [1, 1, 0] c59)) [(5, .sole), (7, .qui), (9, .flo), (8, .sole), (10, .sole), (11, .flo), (12, .sole), (13, .flo), (14, .sole)] (impl_Studio_copied_os_J2.S p) (endT impl_Studio_copied_os_x (.fin : DT impl_Studio_copied_os_J0)) = impl_Studio_copied_os_D1 p) ∧ (∀ p, runDrawn impl_Studio_copied_os_x (opsOf (subc [1, 1, 0] c59)) [(7, .sole), (9, .flo), (5, .sole), (8, .sole), (10, .sole), (11, .flo), (12, .sole), (13, .flo), (14, .sole)] (impl_Studio_copied_os_J2.S p) (endT impl_Studio_copied_os_x (.fin : DT impl_Studio_copied_os_J0)) = impl_Studio_copied_os_D1 p) ∧ (∀ p, runDrawn impl_Studio_copied_os_x (opsOf (subc [1, 1, 0] c59)) [(7, .sole), (2, .sole), (9, .flo), (5, .sole), (8, .sole), (10, .sole), (11, .flo), (12, .sole), (13, .flo), (14, .sole)] (impl_Studio_copied_os_J3.S p) (endT impl_Studio_copied_os_x (.fin : DT impl_Studio_copied_os_J0)) = impl_Studio_copied_os_D2 p) ∧ (∀ p, runDrawn impl_Studio_copied_os_x (opsOf (subc [1, 1, 0] c59)) [(7, .sole)] (impl_Studio_copied_os_J1.S p) (endT impl_Studio_copied_os_x impl_Studio_copied_os_T3) = impl_Studio_copied_os_D0 p) ∧ (∀ p, runDrawn impl_Studio_copied_os_x (opsOf (subc [1, 1, 0] c59)) [(2, .sole), (4, .qui), (9, .flo), (5, .sole), (8, .sole), (10, .sole), (11, .flo), (12, .sole), (13, .flo), (14, .sole)] (impl_Studio_copied_os_J4.S p) (endT impl_Studio_copied_os_x (.fin : DT impl_Studio_copied_os_J0)) = impl_Studio_copied_os_D3 p) ∧ (∀ p, runDrawn impl_Studio_copied_os_x (opsOf (subc [1, 1, 0] c59)) [(4, .sole), (2, .sole), (9, .flo), (5, .sole), (8, .sole), (10, .sole), (11, .flo), (12, .sole), (13, .flo), (14, .sole)] (impl_Studio_copied_os_J4.S p) (endT impl_Studio_copied_os_x (.fin : DT impl_Studio_copied_os_J0)) = impl_Studio_copied_os_D3 p) ∧ True), by kernel_rfl, fun x y => by kernel_rfl⟩
theorem impl_Studio_copied_os_s : impl_Studio_copied_os_D.Says Tryz.prog := impl_Studio_copied_os_w.says follows tabOk slices_Clone_int_int_e_ok
noncomputable def impl_Studio_copied_os_e : Env := more slices_Clone_int_int_e impl_Studio_copied_os_D
theorem impl_Studio_copied_os_e_ok : EnvOk Tryz.prog impl_Studio_copied_os_e := more_ok slices_Clone_int_int_e_ok impl_Studio_copied_os_s
/-! loop.example/g01128/impl.NewConsole -/
abbrev impl_NewConsole_E : Ve.End := ⟨[⟨2, (.prod (.prod (.prod .shr (.own .shr)) (.prod .shr (.prod (.own .shr) (.prod (.own .shr) (.prod (.own .shr) .shr))))) .shr), (.prod (.prod (.prod I (.list (.prod I I))) (.prod I (.prod (.list I) (.prod (.list I) (.prod (.list I) I))))) (.prod .str (.prod .str I))), some 35⟩, ⟨3, .shr, .bool, none⟩], []⟩
abbrev impl_NewConsole_a : List ASh := [.val (.prod (.prod I (.list (.prod I I))) (.prod I (.prod (.list I) (.prod (.list I) (.prod (.list I) I)))))]
abbrev impl_NewConsole_o : List OSh := []
noncomputable def impl_NewConsole : argP impl_NewConsole_a → obP (extObs 0 impl_NewConsole_o) → Option impl_NewConsole_E.P
  | (s, ()), () => match impl_IsStudio (s, ()) () with | some ((r, ()), ()) => (bif (!r) then (some ((((((0 : Int), ([] : (List (Int × Int)))), ((0 : Int), (([] : (List Int)), (([] : (List Int)), (([] : (List Int)), (0 : Int)))))), ((⟨#[]⟩ : ByteArray), ((⟨#[]⟩ : ByteArray), (0 : Int)))), false, ()), ())) else (match impl_Studio_copied_os (s, ()) () with | some ((r2, ()), ()) => some (((((r2.1.1, r2.1.2), (r2.2.1, (r2.2.2.1, (r2.2.2.2.1, (r2.2.2.2.2.1, r2.2.2.2.2.2))))), ((⟨#[]⟩ : ByteArray), ((⟨#[]⟩ : ByteArray), (0 : Int)))), true, ()), ()) | none => none)) | none => none
noncomputable def impl_NewConsole_x : Cx := ⟨tab, impl_Studio_copied_os_e, fun f n => bif Nat.beq f 59 && Nat.beq n 0 then 2 else 0, fun _ => false, [(5, 0), (5, 1), (5, 2), (5, 3), (9, 0), (9, 1), (9, 2), (9, 3)], [(1, 0)]⟩
noncomputable def c13 : Code := bodyOf Tryz.f13
noncomputable def impl_NewConsole_A : Ann := .nil
noncomputable def impl_NewConsole_D : Ve.Fn := ⟨13, impl_NewConsole_a, impl_NewConsole_o, impl_NewConsole_E, impl_NewConsole⟩
theorem impl_NewConsole_w : Walk Tryz.prog impl_NewConsole_x impl_NewConsole_D Tryz.f13 c13 11 impl_NewConsole_A :=
  ⟨⟨Tryz.func13, by kernel_rfl, by kernel_rfl, by kernel_rfl, by decide, by kernel_rfl, Nat.le_of_ble_eq_true (by kernel_rfl)⟩, by kernel_rfl, by kernel_rfl, by kernel_rfl, kcast (by kernel_rfl) trivial, by kernel_rfl, fun x y => by kernel_rfl⟩
theorem impl_NewConsole_s : impl_NewConsole_D.Says Tryz.prog := impl_NewConsole_w.says follows tabOk impl_Studio_copied_os_e_ok
noncomputable def impl_NewConsole_e : Env := more impl_Studio_copied_os_e impl_NewConsole_D
theorem impl_NewConsole_e_ok : EnvOk Tryz.prog impl_NewConsole_e := more_ok impl_Studio_copied_os_e_ok impl_NewConsole_s
/-! loop.example/g01128/laws.eqIntA2 -/
abbrev laws_eqIntA2_J0 : Tpl := ⟨[(2, .cst (.prod I I)), (3, .cst (.prod I I)), (5, .val I)], [], []⟩
abbrev laws_eqIntA2_J1 : Tpl := ⟨[(4, .val .bool)], [], []⟩
abbrev laws_eqIntA2_J2 : Tpl := ⟨[], [], []⟩
abbrev laws_eqIntA2_E : Ve.End := ⟨[⟨4, .shr, .bool, none⟩], []⟩
abbrev laws_eqIntA2_a : List ASh := [.val (.prod I I), .val (.prod I I)]
abbrev laws_eqIntA2_o : List OSh := []
abbrev laws_eqIntA2_O0 : Out := .or .ret laws_eqIntA2_J1 (.one (.ex 0) laws_eqIntA2_J2)
noncomputable def laws_eqIntA2_B0 : laws_eqIntA2_J0.P → Option (laws_eqIntA2_J0.P ⊕ laws_eqIntA2_O0.P)
  | ((a, b, i, ()), ()) => bif (decide (i < (2 : Int))) then (guardB (decide (0 ≤ i) && decide (i < 2)) (guardB (decide (0 ≤ i) && decide (i < 2)) (bif ((bif Nat.beq (Int.toNat i) 0 then a.1 else a.2) != (bif Nat.beq (Int.toNat i) 0 then b.1 else b.2)) then (some (.inr (.inl ((false, ()), ())))) else (some (.inl ((a, b, (w64 (i + (1 : Int))), ()), ())))))) else (some (.inr (.inr ((), ()))))
noncomputable def laws_eqIntA2 : argP laws_eqIntA2_a → obP (extObs 0 laws_eqIntA2_o) → Option laws_eqIntA2_E.P
  | (a, b, ()), () => match loopO laws_eqIntA2_B0 ((a, b, (0 : Int), ()), ()) with | some (.inl ((t4, ()), ())) => some ((t4, ()), ()) | some (.inr ((), ())) => some ((true, ()), ()) | none => none
noncomputable def laws_eqIntA2_x : Cx := ⟨tab, impl_NewConsole_e, fun _ _ => 0, fun _ => false, [], [(2, 0), (3, 0)]⟩
noncomputable def c171 : Code := bodyOf Tryz.f171
noncomputable def laws_eqIntA2_A : Ann := .seq .nil (.seq (.seq .nil (.loop laws_eqIntA2_J0 laws_eqIntA2_O0 laws_eqIntA2_B0 (.seq .nil (.seq (.seq (.draw [(0, .flo), (1, .flo), (2, .flo), (3, .flo), (4, .flo), (5, .flo), (6, .flo)]) .nil) .nil)))) .nil)
theorem laws_eqIntA2_r0 (p : laws_eqIntA2_J0.P) : run laws_eqIntA2_x (subc [1, 0, 1, 0, 0] c171) (.seq .nil (.seq (.seq (.draw [(0, .flo), (1, .flo), (2, .flo), (3, .flo), (4, .flo), (5, .flo), (6, .flo)]) .nil) .nil)) (laws_eqIntA2_J0.S p) (leaf laws_eqIntA2_J0 laws_eqIntA2_O0) = laws_eqIntA2_B0 p := by kernel_rfl
noncomputable def laws_eqIntA2_D : Ve.Fn := ⟨171, laws_eqIntA2_a, laws_eqIntA2_o, laws_eqIntA2_E, laws_eqIntA2⟩
theorem laws_eqIntA2_w : Walk Tryz.prog laws_eqIntA2_x laws_eqIntA2_D Tryz.f171 c171 17 laws_eqIntA2_A :=
  ⟨⟨Tryz.func171, by kernel_rfl, by kernel_rfl, by kernel_rfl, by decide, by kernel_rfl, Nat.le_of_ble_eq_true (by kernel_rfl)⟩, by kernel_rfl, by kernel_rfl, by kernel_rfl, kcast (by kernel_rfl) (⟨laws_eqIntA2_r0, trivial⟩ : (∀ p, run laws_eqIntA2_x (subc [1, 0, 1, 0, 0] c171) (.seq .nil (.seq (.seq (.draw [(0, .flo), (1, .flo), (2, .flo), (3, .flo), (4, .flo), (5, .flo), (6, .flo)]) .nil) .nil)) (laws_eqIntA2_J0.S p) (leaf laws_eqIntA2_J0 laws_eqIntA2_O0) = laws_eqIntA2_B0 p) ∧ True), by kernel_rfl, fun x y => by kernel_rfl⟩
theorem laws_eqIntA2_s : laws_eqIntA2_D.Says Tryz.prog := laws_eqIntA2_w.says follows tabOk impl_NewConsole_e_ok
noncomputable def laws_eqIntA2_e : Env := more impl_NewConsole_e laws_eqIntA2_D
theorem laws_eqIntA2_e_ok : EnvOk Tryz.prog laws_eqIntA2_e := more_ok impl_NewConsole_e_ok laws_eqIntA2_s
/-! loop.example/g01128/laws.eqIntA2S -/
abbrev laws_eqIntA2S_J0 : Tpl := ⟨[(0, .val (.list (.prod I I))), (1, .val (.list (.prod I I))), (5, .val I)], [], []⟩
abbrev laws_eqIntA2S_J1 : Tpl := ⟨[(4, .val .bool)], [], []⟩
abbrev laws_eqIntA2S_J2 : Tpl := ⟨[], [], []⟩
abbrev laws_eqIntA2S_E : Ve.End := ⟨[⟨4, .shr, .bool, none⟩], []⟩
abbrev laws_eqIntA2S_a : List ASh := [.val (.list (.prod I I)), .val (.list (.prod I I))]
abbrev laws_eqIntA2S_o : List OSh := []
abbrev laws_eqIntA2S_O0 : Out := .or .ret laws_eqIntA2S_J1 (.one (.ex 0) laws_eqIntA2S_J2)
noncomputable def laws_eqIntA2S_B0 : laws_eqIntA2S_J0.P → Option (laws_eqIntA2S_J0.P ⊕ laws_eqIntA2S_O0.P)
  | ((a, b, i, ()), ()) => bif (decide (i < (List.length a : Int))) then (guardB (inb i (List.length a)) (guardB (inb i (List.length b)) (match laws_eqIntA2 ((List.getD a (Int.toNat i) ((0 : Int), (0 : Int))), (List.getD b (Int.toNat i) ((0 : Int), (0 : Int))), ()) () with | some ((r, ()), ()) => (bif (!r) then (some (.inr (.inl ((false, ()), ())))) else (some (.inl ((a, b, (w64 (i + (1 : Int))), ()), ())))) | none => none))) else (some (.inr (.inr ((), ()))))
noncomputable def laws_eqIntA2S : argP laws_eqIntA2S_a → obP (extObs 0 laws_eqIntA2S_o) → Option laws_eqIntA2S_E.P
  | (a, b, ()), () => bif ((List.length a : Int) != (List.length b : Int)) then (some ((false, ()), ())) else (match loopO laws_eqIntA2S_B0 ((a, b, (0 : Int), ()), ()) with | some (.inl ((t4, ()), ())) => some ((t4, ()), ()) | some (.inr ((), ())) => some ((true, ()), ()) | none => none)
noncomputable def laws_eqIntA2S_x : Cx := ⟨tab, laws_eqIntA2_e, fun _ _ => 0, fun _ => false, [(25, 0), (25, 1), (25, 2), (25, 3)], []⟩
noncomputable def c111 : Code := bodyOf Tryz.f111
noncomputable def laws_eqIntA2S_A : Ann := .seq .nil (.seq .nil (.seq (.seq .nil (.loop laws_eqIntA2S_J0 laws_eqIntA2S_O0 laws_eqIntA2S_B0 (.seq .nil (.seq (.seq (.draw [(0, .flo), (1, .flo), (2, .flo), (3, .flo), (4, .flo), (5, .flo), (6, .flo), (7, .flo), (8, .sole), (9, .flo)]) .nil) .nil)))) .nil))
theorem laws_eqIntA2S_r0 (p : laws_eqIntA2S_J0.P) : run laws_eqIntA2S_x (subc [1, 1, 0, 1, 0, 0] c111) (.seq .nil (.seq (.seq (.draw [(0, .flo), (1, .flo), (2, .flo), (3, .flo), (4, .flo), (5, .flo), (6, .flo), (7, .flo), (8, .sole), (9, .flo)]) .nil) .nil)) (laws_eqIntA2S_J0.S p) (leaf laws_eqIntA2S_J0 laws_eqIntA2S_O0) = laws_eqIntA2S_B0 p := by kernel_rfl
noncomputable def laws_eqIntA2S_D : Ve.Fn := ⟨111, laws_eqIntA2S_a, laws_eqIntA2S_o, laws_eqIntA2S_E, laws_eqIntA2S⟩
theorem laws_eqIntA2S_w : Walk Tryz.prog laws_eqIntA2S_x laws_eqIntA2S_D Tryz.f111 c111 27 laws_eqIntA2S_A :=
  ⟨⟨Tryz.func111, by kernel_rfl, by kernel_rfl, by kernel_rfl, by decide, by kernel_rfl, Nat.le_of_ble_eq_true (by kernel_rfl)⟩, by kernel_rfl, by kernel_rfl, by kernel_rfl, kcast (by kernel_rfl) (⟨laws_eqIntA2S_r0, trivial⟩ : (∀ p, run laws_eqIntA2S_x (subc [1, 1, 0, 1, 0, 0] c111) (.seq .nil (.seq (.seq (.draw [(0, .flo), (1, .flo), (2, .flo), (3, .flo), (4, .flo), (5, .flo), (6, .flo), (7, .flo), (8, .sole), (9, .flo)]) .nil) .nil)) (laws_eqIntA2S_J0.S p) (leaf laws_eqIntA2S_J0 laws_eqIntA2S_O0) = laws_eqIntA2S_B0 p) ∧ True), by kernel_rfl, fun x y => by kernel_rfl⟩
theorem laws_eqIntA2S_s : laws_eqIntA2S_D.Says Tryz.prog := laws_eqIntA2S_w.says follows tabOk laws_eqIntA2_e_ok
noncomputable def laws_eqIntA2S_e : Env := more laws_eqIntA2_e laws_eqIntA2S_D
theorem laws_eqIntA2S_e_ok : EnvOk Tryz.prog laws_eqIntA2S_e := more_ok laws_eqIntA2_e_ok laws_eqIntA2S_s
/-! loop.example/g01128/laws.eqGraph -/
abbrev laws_eqGraph_E : Ve.End := ⟨[⟨4, .shr, .bool, none⟩], []⟩
abbrev laws_eqGraph_a : List ASh := [.val (.prod I (.list (.prod I I))), .val (.prod I (.list (.prod I I)))]
abbrev laws_eqGraph_o : List OSh := []
noncomputable def laws_eqGraph : argP laws_eqGraph_a → obP (extObs 0 laws_eqGraph_o) → Option laws_eqGraph_E.P
  | (a, b, ()), () => bif (a.1 != b.1) then (some ((false, ()), ())) else (match laws_eqIntA2S (a.2, b.2, ()) () with | some ((r, ()), ()) => (bif (!r) then (some ((false, ()), ())) else (some ((true, ()), ()))) | none => none)
noncomputable def laws_eqGraph_x : Cx := ⟨tab, laws_eqIntA2S_e, fun _ _ => 0, fun _ => false, [(14, 0), (14, 1), (14, 2), (14, 3)], [(2, 0), (3, 0)]⟩
noncomputable def c61 : Code := bodyOf Tryz.f61
noncomputable def laws_eqGraph_A : Ann := .nil
noncomputable def laws_eqGraph_D : Ve.Fn := ⟨61, laws_eqGraph_a, laws_eqGraph_o, laws_eqGraph_E, laws_eqGraph⟩
theorem laws_eqGraph_w : Walk Tryz.prog laws_eqGraph_x laws_eqGraph_D Tryz.f61 c61 16 laws_eqGraph_A :=
  ⟨⟨Tryz.func61, by kernel_rfl, by kernel_rfl, by kernel_rfl, by decide, by kernel_rfl, Nat.le_of_ble_eq_true (by kernel_rfl)⟩, by kernel_rfl, by kernel_rfl, by kernel_rfl, kcast (by kernel_rfl) trivial, by kernel_rfl, fun x y => by kernel_rfl⟩
theorem laws_eqGraph_s : laws_eqGraph_D.Says Tryz.prog := laws_eqGraph_w.says follows tabOk laws_eqIntA2S_e_ok
noncomputable def laws_eqGraph_e : Env := more laws_eqIntA2S_e laws_eqGraph_D
theorem laws_eqGraph_e_ok : EnvOk Tryz.prog laws_eqGraph_e := more_ok laws_eqIntA2S_e_ok laws_eqGraph_s
/-! loop.example/g01128/laws.eqIntS -/
abbrev laws_eqIntS_J0 : Tpl := ⟨[(0, .val (.list I)), (1, .val (.list I)), (5, .val I)], [], []⟩
abbrev laws_eqIntS_J1 : Tpl := ⟨[(4, .val .bool)], [], []⟩
abbrev laws_eqIntS_J2 : Tpl := ⟨[], [], []⟩
abbrev laws_eqIntS_E : Ve.End := ⟨[⟨4, .shr, .bool, none⟩], []⟩
abbrev laws_eqIntS_a : List ASh := [.val (.list I), .val (.list I)]
abbrev laws_eqIntS_o : List OSh := []
abbrev laws_eqIntS_O0 : Out := .or .ret laws_eqIntS_J1 (.one (.ex 0) laws_eqIntS_J2)
noncomputable def laws_eqIntS_B0 : laws_eqIntS_J0.P → Option (laws_eqIntS_J0.P ⊕ laws_eqIntS_O0.P)
  | ((a, b, i, ()), ()) => bif (decide (i < (List.length a : Int))) then (guardB (inb i (List.length a)) (guardB (inb i (List.length b)) (bif ((List.getD a (Int.toNat i) (0 : Int)) != (List.getD b (Int.toNat i) (0 : Int))) then (some (.inr (.inl ((false, ()), ())))) else (some (.inl ((a, b, (w64 (i + (1 : Int))), ()), ())))))) else (some (.inr (.inr ((), ()))))
noncomputable def laws_eqIntS : argP laws_eqIntS_a → obP (extObs 0 laws_eqIntS_o) → Option laws_eqIntS_E.P
  | (a, b, ()), () => bif ((List.length a : Int) != (List.length b : Int)) then (some ((false, ()), ())) else (match loopO laws_eqIntS_B0 ((a, b, (0 : Int), ()), ()) with | some (.inl ((t4, ()), ())) => some ((t4, ()), ()) | some (.inr ((), ())) => some ((true, ()), ()) | none => none)
noncomputable def laws_eqIntS_x : Cx := ⟨tab, laws_eqGraph_e, fun _ _ => 0, fun _ => false, [], []⟩
noncomputable def c21 : Code := bodyOf Tryz.f21
noncomputable def laws_eqIntS_A : Ann := .seq .nil (.seq .nil (.seq (.seq .nil (.loop laws_eqIntS_J0 laws_eqIntS_O0 laws_eqIntS_B0 (.seq .nil (.seq (.seq (.draw [(0, .flo), (1, .flo), (2, .flo), (3, .flo), (4, .flo), (5, .flo), (6, .flo), (7, .flo), (8, .flo)]) .nil) .nil)))) .nil))
theorem laws_eqIntS_r0 (p : laws_eqIntS_J0.P) : run laws_eqIntS_x (subc [1, 1, 0, 1, 0, 0] c21) (.seq .nil (.seq (.seq (.draw [(0, .flo), (1, .flo), (2, .flo), (3, .flo), (4, .flo), (5, .flo), (6, .flo), (7, .flo), (8, .flo)]) .nil) .nil)) (laws_eqIntS_J0.S p) (leaf laws_eqIntS_J0 laws_eqIntS_O0) = laws_eqIntS_B0 p := by kernel_rfl
noncomputable def laws_eqIntS_D : Ve.Fn := ⟨21, laws_eqIntS_a, laws_eqIntS_o, laws_eqIntS_E, laws_eqIntS⟩
theorem laws_eqIntS_w : Walk Tryz.prog laws_eqIntS_x laws_eqIntS_D Tryz.f21 c21 26 laws_eqIntS_A :=
  ⟨⟨Tryz.func21, by kernel_rfl, by kernel_rfl, by kernel_rfl, by decide, by kernel_rfl, Nat.le_of_ble_eq_true (by kernel_rfl)⟩, by kernel_rfl, by kernel_rfl, by kernel_rfl, kcast (by kernel_rfl) (⟨laws_eqIntS_r0, trivial⟩ : (∀ p, run laws_eqIntS_x (subc [1, 1, 0, 1, 0, 0] c21) (.seq .nil (.seq (.seq (.draw [(0, .flo), (1, .flo), (2, .flo), (3, .flo), (4, .flo), (5, .flo), (6, .flo), (7, .flo), (8, .flo)]) .nil) .nil)) (laws_eqIntS_J0.S p) (leaf laws_eqIntS_J0 laws_eqIntS_O0) = laws_eqIntS_B0 p) ∧ True), by kernel_rfl, fun x y => by kernel_rfl⟩
theorem laws_eqIntS_s : laws_eqIntS_D.Says Tryz.prog := laws_eqIntS_w.says follows tabOk laws_eqGraph_e_ok
noncomputable def laws_eqIntS_e : Env := more laws_eqGraph_e laws_eqIntS_D
theorem laws_eqIntS_e_ok : EnvOk Tryz.prog laws_eqIntS_e := more_ok laws_eqGraph_e_ok laws_eqIntS_s
/-! loop.example/g01128/laws.eqStudio -/
abbrev laws_eqStudio_E : Ve.End := ⟨[⟨4, .shr, .bool, none⟩], []⟩
abbrev laws_eqStudio_a : List ASh := [.val (.prod (.prod I (.list (.prod I I))) (.prod I (.prod (.list I) (.prod (.list I) (.prod (.list I) I))))), .val (.prod (.prod I (.list (.prod I I))) (.prod I (.prod (.list I) (.prod (.list I) (.prod (.list I) I)))))]
abbrev laws_eqStudio_o : List OSh := []
noncomputable def laws_eqStudio : argP laws_eqStudio_a → obP (extObs 0 laws_eqStudio_o) → Option laws_eqStudio_E.P
  | (a, b, ()), () => match laws_eqGraph (a.1, b.1, ()) () with | some ((r, ()), ()) => (bif (!r) then (some ((false, ()), ())) else (bif (a.2.1 != b.2.1) then (some ((false, ()), ())) else (match laws_eqIntS (a.2.2.1, b.2.2.1, ()) () with | some ((r2, ()), ()) => (bif (!r2) then (some ((false, ()), ())) else (match laws_eqIntS (a.2.2.2.1, b.2.2.2.1, ()) () with | some ((r3, ()), ()) => (bif (!r3) then (some ((false, ()), ())) else (match laws_eqIntS (a.2.2.2.2.1, b.2.2.2.2.1, ()) () with | some ((r4, ()), ()) => (bif (!r4) then (some ((false, ()), ())) else (bif (a.2.2.2.2.2 != b.2.2.2.2.2) then (some ((false, ()), ())) else (some ((true, ()), ())))) | none => none)) | none => none)) | none => none))) | none => none
noncomputable def laws_eqStudio_x : Cx := ⟨tab, laws_eqIntS_e, fun _ _ => 0, fun _ => false, [(9, 0), (9, 1), (9, 2), (9, 3), (20, 0), (20, 1), (20, 2), (20, 3), (26, 0), (26, 1), (26, 2), (26, 3), (32, 0), (32, 1), (32, 2), (32, 3)], [(2, 0), (3, 0)]⟩
noncomputable def c15 : Code := bodyOf Tryz.f15
noncomputable def laws_eqStudio_A : Ann := .nil
noncomputable def laws_eqStudio_D : Ve.Fn := ⟨15, laws_eqStudio_a, laws_eqStudio_o, laws_eqStudio_E, laws_eqStudio⟩
theorem laws_eqStudio_w : Walk Tryz.prog laws_eqStudio_x laws_eqStudio_D Tryz.f15 c15 39 laws_eqStudio_A :=
  ⟨⟨Tryz.func15, by kernel_rfl, by kernel_rfl, by kernel_rfl, by decide, by kernel_rfl, Nat.le_of_ble_eq_true (by kernel_rfl)⟩, by kernel_rfl, by kernel_rfl, by kernel_rfl, kcast (by kernel_rfl) trivial, by kernel_rfl, fun x y => by kernel_rfl⟩
theorem laws_eqStudio_s : laws_eqStudio_D.Says Tryz.prog := laws_eqStudio_w.says follows tabOk laws_eqIntS_e_ok
noncomputable def laws_eqStudio_e : Env := more laws_eqIntS_e laws_eqStudio_D
theorem laws_eqStudio_e_ok : EnvOk Tryz.prog laws_eqStudio_e := more_ok laws_eqIntS_e_ok laws_eqStudio_s
/-! loop.example/g01128/laws.eqLog -/
abbrev laws_eqLog_E : Ve.End := ⟨[⟨4, .shr, .bool, none⟩], []⟩
abbrev laws_eqLog_a : List ASh := [.val (.prod .str (.prod .str I)), .val (.prod .str (.prod .str I))]
abbrev laws_eqLog_o : List OSh := []
noncomputable def laws_eqLog : argP laws_eqLog_a → obP (extObs 0 laws_eqLog_o) → Option laws_eqLog_E.P
  | (a, b, ()), () => bif (!(ByteArray.toList a.1 == ByteArray.toList b.1)) then (some ((false, ()), ())) else (bif (!(ByteArray.toList a.2.1 == ByteArray.toList b.2.1)) then (some ((false, ()), ())) else (bif (a.2.2 != b.2.2) then (some ((false, ()), ())) else (some ((true, ()), ()))))
noncomputable def laws_eqLog_x : Cx := ⟨tab, laws_eqStudio_e, fun _ _ => 0, fun _ => false, [], [(2, 0), (3, 0)]⟩
noncomputable def c60 : Code := bodyOf Tryz.f60
noncomputable def laws_eqLog_A : Ann := .nil
noncomputable def laws_eqLog_D : Ve.Fn := ⟨60, laws_eqLog_a, laws_eqLog_o, laws_eqLog_E, laws_eqLog⟩
theorem laws_eqLog_w : Walk Tryz.prog laws_eqLog_x laws_eqLog_D Tryz.f60 c60 20 laws_eqLog_A :=
  ⟨⟨Tryz.func60, by kernel_rfl, by kernel_rfl, by kernel_rfl, by decide, by kernel_rfl, Nat.le_of_ble_eq_true (by kernel_rfl)⟩, by kernel_rfl, by kernel_rfl, by kernel_rfl, kcast (by kernel_rfl) trivial, by kernel_rfl, fun x y => by kernel_rfl⟩
theorem laws_eqLog_s : laws_eqLog_D.Says Tryz.prog := laws_eqLog_w.says follows tabOk laws_eqStudio_e_ok
noncomputable def laws_eqLog_e : Env := more laws_eqStudio_e laws_eqLog_D
theorem laws_eqLog_e_ok : EnvOk Tryz.prog laws_eqLog_e := more_ok laws_eqStudio_e_ok laws_eqLog_s
/-! loop.example/g01128/laws.eqConsole -/
abbrev laws_eqConsole_E : Ve.End := ⟨[⟨4, .shr, .bool, none⟩], []⟩
abbrev laws_eqConsole_a : List ASh := [.val (.prod (.prod (.prod I (.list (.prod I I))) (.prod I (.prod (.list I) (.prod (.list I) (.prod (.list I) I))))) (.prod .str (.prod .str I))), .val (.prod (.prod (.prod I (.list (.prod I I))) (.prod I (.prod (.list I) (.prod (.list I) (.prod (.list I) I))))) (.prod .str (.prod .str I)))]
abbrev laws_eqConsole_o : List OSh := []
noncomputable def laws_eqConsole : argP laws_eqConsole_a → obP (extObs 0 laws_eqConsole_o) → Option laws_eqConsole_E.P
  | (a, b, ()), () => match laws_eqStudio (a.1, b.1, ()) () with | some ((r, ()), ()) => (bif (!r) then (some ((false, ()), ())) else (match laws_eqLog (a.2, b.2, ()) () with | some ((r2, ()), ()) => (bif (!r2) then (some ((false, ()), ())) else (some ((true, ()), ()))) | none => none)) | none => none
noncomputable def laws_eqConsole_x : Cx := ⟨tab, laws_eqLog_e, fun _ _ => 0, fun _ => false, [(9, 0), (9, 1), (9, 2), (9, 3), (15, 0), (15, 1), (15, 2), (15, 3)], [(2, 0), (3, 0)]⟩
noncomputable def c14 : Code := bodyOf Tryz.f14
noncomputable def laws_eqConsole_A : Ann := .nil
noncomputable def laws_eqConsole_D : Ve.Fn := ⟨14, laws_eqConsole_a, laws_eqConsole_o, laws_eqConsole_E, laws_eqConsole⟩
theorem laws_eqConsole_w : Walk Tryz.prog laws_eqConsole_x laws_eqConsole_D Tryz.f14 c14 17 laws_eqConsole_A :=
  ⟨⟨Tryz.func14, by kernel_rfl, by kernel_rfl, by kernel_rfl, by decide, by kernel_rfl, Nat.le_of_ble_eq_true (by kernel_rfl)⟩, by kernel_rfl, by kernel_rfl, by kernel_rfl, kcast (by kernel_rfl) trivial, by kernel_rfl, fun x y => by kernel_rfl⟩
theorem laws_eqConsole_s : laws_eqConsole_D.Says Tryz.prog := laws_eqConsole_w.says follows tabOk laws_eqLog_e_ok
noncomputable def laws_eqConsole_e : Env := more laws_eqLog_e laws_eqConsole_D
theorem laws_eqConsole_e_ok : EnvOk Tryz.prog laws_eqConsole_e := more_ok laws_eqLog_e_ok laws_eqConsole_s
/-! loop.example/g01128/laws.markIntA2S -/
abbrev laws_markIntA2S_e0v_ls_J0 : Tpl := ⟨[(0, .same (1000000, 0) []), (1, .val I), (5, .val I), (6, .val I)], [((1000000, 0), .vec .shr (.prod I I))], []⟩
abbrev laws_markIntA2S_e0v_ls_J1 : Tpl := ⟨[(0, .same (1000000, 0) []), (1, .val I), (5, .val I)], [((1000000, 0), .vec .shr (.prod I I))], []⟩
abbrev laws_markIntA2S_e0v_ls_J2 : Tpl := ⟨[(1, .val I)], [((1000000, 0), .vec .shr (.prod I I))], []⟩
abbrev laws_markIntA2S_e0v_ls_E : Ve.End := ⟨[⟨4, .shr, I, none⟩], [.vec .shr (.prod I I)]⟩
abbrev laws_markIntA2S_e0v_ls_a : List ASh := [.ext 0, .val I]
abbrev laws_markIntA2S_e0v_ls_o : List OSh := [.vec .shr (.prod I I)]
abbrev laws_markIntA2S_e0v_ls_O0 : Out := .one (.ex 2) laws_markIntA2S_e0v_ls_J1
noncomputable def laws_markIntA2S_e0v_ls_B0 : laws_markIntA2S_e0v_ls_J0.P → Option (laws_markIntA2S_e0v_ls_J0.P ⊕ laws_markIntA2S_e0v_ls_O0.P)
  | ((k, i, j, ()), (o0, ())) => bif (decide (j < (2 : Int))) then (guardB (inb i (List.length o0)) (guardB (decide (0 ≤ j) && decide (j < 2)) (some (.inl (((w64 (k + (1 : Int))), i, (w64 (j + (1 : Int))), ()), ((List.set o0 (Int.toNat i) (bif Nat.beq (Int.toNat j) 0 then (k, (List.getD o0 (Int.toNat i) ((0 : Int), (0 : Int))).2) else ((List.getD o0 (Int.toNat i) ((0 : Int), (0 : Int))).1, k))), ())))))) else (some (.inr ((k, i, ()), (o0, ()))))
abbrev laws_markIntA2S_e0v_ls_O1 : Out := .one (.ex 0) laws_markIntA2S_e0v_ls_J2
noncomputable def laws_markIntA2S_e0v_ls_B1 : laws_markIntA2S_e0v_ls_J1.P → Option (laws_markIntA2S_e0v_ls_J1.P ⊕ laws_markIntA2S_e0v_ls_O1.P)
  | ((k, i, ()), (o0, ())) => bif (decide (i < (List.length o0 : Int))) then (match loopO laws_markIntA2S_e0v_ls_B0 ((k, i, (0 : Int), ()), (o0, ())) with | some ((k2, i2, ()), (o0_2, ())) => some (.inl ((k2, (w64 (i2 + (1 : Int))), ()), (o0_2, ()))) | none => none) else (some (.inr ((k, ()), (o0, ()))))
noncomputable def laws_markIntA2S_e0v_ls : argP laws_markIntA2S_e0v_ls_a → obP (extObs 0 laws_markIntA2S_e0v_ls_o) → Option laws_markIntA2S_e0v_ls_E.P
  | (k, ()), (o0, ()) => match loopO laws_markIntA2S_e0v_ls_B1 ((k, (0 : Int), ()), (o0, ())) with | some ((k2, ()), (o0_2, ())) => some ((k2, ()), (o0_2, ())) | none => none
noncomputable def laws_markIntA2S_e0v_ls_x : Cx := ⟨tab, laws_eqConsole_e, fun _ _ => 0, fun _ => false, [], []⟩
noncomputable def c112 : Code := bodyOf Tryz.f112
noncomputable def laws_markIntA2S_e0v_ls_A : Ann := .seq .nil (.seq (.seq .nil (.loop laws_markIntA2S_e0v_ls_J1 laws_markIntA2S_e0v_ls_O1 laws_markIntA2S_e0v_ls_B1 (.seq .nil (.seq (.seq .nil (.loop laws_markIntA2S_e0v_ls_J0 laws_markIntA2S_e0v_ls_O0 laws_markIntA2S_e0v_ls_B0 .nil)) .nil)))) .nil)
theorem laws_markIntA2S_e0v_ls_r0 (p : laws_markIntA2S_e0v_ls_J1.P) : run laws_markIntA2S_e0v_ls_x (subc [1, 0, 1, 0, 0] c112) (.seq .nil (.seq (.seq .nil (.loop laws_markIntA2S_e0v_ls_J0 laws_markIntA2S_e0v_ls_O0 laws_markIntA2S_e0v_ls_B0 .nil)) .nil)) (laws_markIntA2S_e0v_ls_J1.S p) (leaf laws_markIntA2S_e0v_ls_J1 laws_markIntA2S_e0v_ls_O1) = laws_markIntA2S_e0v_ls_B1 p := by kernel_rfl
theorem laws_markIntA2S_e0v_ls_r1 (p : laws_markIntA2S_e0v_ls_J0.P) : run laws_markIntA2S_e0v_ls_x (subc [1, 0, 1, 0, 0, 1, 0, 0, 1, 0, 0] c112) .nil (laws_markIntA2S_e0v_ls_J0.S p) (leaf laws_markIntA2S_e0v_ls_J0 laws_markIntA2S_e0v_ls_O0) = laws_markIntA2S_e0v_ls_B0 p := by kernel_rfl
noncomputable def laws_markIntA2S_e0v_ls_D : Ve.Fn := ⟨112, laws_markIntA2S_e0v_ls_a, laws_markIntA2S_e0v_ls_o, laws_markIntA2S_e0v_ls_E, laws_markIntA2S_e0v_ls⟩
theorem laws_markIntA2S_e0v_ls_w : Walk Tryz.prog laws_markIntA2S_e0v_ls_x laws_markIntA2S_e0v_ls_D Tryz.f112 c112 26 laws_markIntA2S_e0v_ls_A :=
  ⟨⟨Tryz.func112, by kernel_rfl, by kernel_rfl, by kernel_rfl, by decide, by kernel_rfl, Nat.le_of_ble_eq_true (by kernel_rfl)⟩, by kernel_rfl, by kernel_rfl, by kernel_rfl, kcast (by kernel_rfl) (⟨laws_markIntA2S_e0v_ls_r0, laws_markIntA2S_e0v_ls_r1, trivial⟩ : (∀ p, run laws_markIntA2S_e0v_ls_x (subc [1, 0, 1, 0, 0] c112) (.seq .nil (.seq (.seq .nil (.loop laws_markIntA2S_e0v_ls_J0 laws_markIntA2S_e0v_ls_O0 laws_markIntA2S_e0v_ls_B0 .nil)) .nil)) (laws_markIntA2S_e0v_ls_J1.S p) (leaf laws_markIntA2S_e0v_ls_J1 laws_markIntA2S_e0v_ls_O1) = laws_markIntA2S_e0v_ls_B1 p) ∧ (∀ p, run laws_markIntA2S_e0v_ls_x (subc [1, 0, 1, 0, 0, 1, 0, 0, 1, 0, 0] c112) .nil (laws_markIntA2S_e0v_ls_J0.S p) (leaf laws_markIntA2S_e0v_ls_J0 laws_markIntA2S_e0v_ls_O0) = laws_markIntA2S_e0v_ls_B0 p) ∧ True), by kernel_rfl, fun x y => by kernel_rfl⟩
theorem laws_markIntA2S_e0v_ls_s : laws_markIntA2S_e0v_ls_D.Says Tryz.prog := laws_markIntA2S_e0v_ls_w.says follows tabOk laws_eqConsole_e_ok
noncomputable def laws_markIntA2S_e0v_ls_e : Env := more laws_eqConsole_e laws_markIntA2S_e0v_ls_D
theorem laws_markIntA2S_e0v_ls_e_ok : EnvOk Tryz.prog laws_markIntA2S_e0v_ls_e := more_ok laws_eqConsole_e_ok laws_markIntA2S_e0v_ls_s
/-! loop.example/g01128/laws.markGraph -/
abbrev laws_markGraph_tpv0v_ls_E : Ve.End := ⟨[⟨4, .shr, I, none⟩], [.vec .shr (.prod I I)]⟩
abbrev laws_markGraph_tpv0v_ls_a : List ASh := [.str (.pr (.val I) (.ref (.prod I I) 0 [])), .val I]
abbrev laws_markGraph_tpv0v_ls_o : List OSh := [.vec .shr (.prod I I)]
noncomputable def laws_markGraph_tpv0v_ls : argP laws_markGraph_tpv0v_ls_a → obP (extObs 0 laws_markGraph_tpv0v_ls_o) → Option laws_markGraph_tpv0v_ls_E.P
  | ((a, ()), k, ()), (o0, ()) => match laws_markIntA2S_e0v_ls (k, ()) (o0, ()) with | some ((r, ()), (o, ())) => some ((r, ()), (o, ())) | none => none
noncomputable def laws_markGraph_tpv0v_ls_x : Cx := ⟨tab, laws_markIntA2S_e0v_ls_e, fun f n => bif Nat.beq f 112 && Nat.beq n 0 then 1 else 0, fun n => Nat.beq n 2, [(8, 0), (8, 1), (8, 2), (8, 3)], []⟩
noncomputable def c62 : Code := bodyOf Tryz.f62
noncomputable def laws_markGraph_tpv0v_ls_A : Ann := .nil
noncomputable def laws_markGraph_tpv0v_ls_D : Ve.Fn := ⟨62, laws_markGraph_tpv0v_ls_a, laws_markGraph_tpv0v_ls_o, laws_markGraph_tpv0v_ls_E, laws_markGraph_tpv0v_ls⟩
theorem laws_markGraph_tpv0v_ls_w : Walk Tryz.prog laws_markGraph_tpv0v_ls_x laws_markGraph_tpv0v_ls_D Tryz.f62 c62 10 laws_markGraph_tpv0v_ls_A :=
  ⟨⟨Tryz.func62, by kernel_rfl, by kernel_rfl, by kernel_rfl, by decide, by kernel_rfl, Nat.le_of_ble_eq_true (by kernel_rfl)⟩, by kernel_rfl, by kernel_rfl, by kernel_rfl, kcast (by kernel_rfl) trivial, by kernel_rfl, fun x y => by kernel_rfl⟩
theorem laws_markGraph_tpv0v_ls_s : laws_markGraph_tpv0v_ls_D.Says Tryz.prog := laws_markGraph_tpv0v_ls_w.says follows tabOk laws_markIntA2S_e0v_ls_e_ok
noncomputable def laws_markGraph_tpv0v_ls_e : Env := more laws_markIntA2S_e0v_ls_e laws_markGraph_tpv0v_ls_D
theorem laws_markGraph_tpv0v_ls_e_ok : EnvOk Tryz.prog laws_markGraph_tpv0v_ls_e := more_ok laws_markIntA2S_e0v_ls_e_ok laws_markGraph_tpv0v_ls_s
/-! loop.example/g01128/laws.markIntS -/
abbrev laws_markIntS_e0v_ls_J0 : Tpl := ⟨[(0, .same (1000000, 0) []), (1, .val I), (5, .val I)], [((1000000, 0), .vec .shr I)], []⟩
abbrev laws_markIntS_e0v_ls_J1 : Tpl := ⟨[(1, .val I)], [((1000000, 0), .vec .shr I)], []⟩
abbrev laws_markIntS_e0v_ls_E : Ve.End := ⟨[⟨4, .shr, I, none⟩], [.vec .shr I]⟩
abbrev laws_markIntS_e0v_ls_a : List ASh := [.ext 0, .val I]
abbrev laws_markIntS_e0v_ls_o : List OSh := [.vec .shr I]
abbrev laws_markIntS_e0v_ls_O0 : Out := .one (.ex 0) laws_markIntS_e0v_ls_J1
noncomputable def laws_markIntS_e0v_ls_B0 : laws_markIntS_e0v_ls_J0.P → Option (laws_markIntS_e0v_ls_J0.P ⊕ laws_markIntS_e0v_ls_O0.P)
  | ((k, i, ()), (o0, ())) => bif (decide (i < (List.length o0 : Int))) then (guardB (inb i (List.length o0)) (some (.inl (((w64 (k + (1 : Int))), (w64 (i + (1 : Int))), ()), ((List.set o0 (Int.toNat i) k), ()))))) else (some (.inr ((k, ()), (o0, ()))))
noncomputable def laws_markIntS_e0v_ls : argP laws_markIntS_e0v_ls_a → obP (extObs 0 laws_markIntS_e0v_ls_o) → Option laws_markIntS_e0v_ls_E.P
  | (k, ()), (o0, ()) => match loopO laws_markIntS_e0v_ls_B0 ((k, (0 : Int), ()), (o0, ())) with | some ((k2, ()), (o0_2, ())) => some ((k2, ()), (o0_2, ())) | none => none
noncomputable def laws_markIntS_e0v_ls_x : Cx := ⟨tab, laws_markGraph_tpv0v_ls_e, fun _ _ => 0, fun _ => false, [], []⟩
noncomputable def c22 : Code := bodyOf Tryz.f22
noncomputable def laws_markIntS_e0v_ls_A : Ann := .seq .nil (.seq (.seq .nil (.loop laws_markIntS_e0v_ls_J0 laws_markIntS_e0v_ls_O0 laws_markIntS_e0v_ls_B0 .nil)) .nil)
theorem laws_markIntS_e0v_ls_r0 (p : laws_markIntS_e0v_ls_J0.P) : run laws_markIntS_e0v_ls_x (subc [1, 0, 1, 0, 0] c22) .nil (laws_markIntS_e0v_ls_J0.S p) (leaf laws_markIntS_e0v_ls_J0 laws_markIntS_e0v_ls_O0) = laws_markIntS_e0v_ls_B0 p := by kernel_rfl
noncomputable def laws_markIntS_e0v_ls_D : Ve.Fn := ⟨22, laws_markIntS_e0v_ls_a, laws_markIntS_e0v_ls_o, laws_markIntS_e0v_ls_E, laws_markIntS_e0v_ls⟩
theorem laws_markIntS_e0v_ls_w : Walk Tryz.prog laws_markIntS_e0v_ls_x laws_markIntS_e0v_ls_D Tryz.f22 c22 19 laws_markIntS_e0v_ls_A :=
  ⟨⟨Tryz.func22, by kernel_rfl, by kernel_rfl, by kernel_rfl, by decide, by kernel_rfl, Nat.le_of_ble_eq_true (by kernel_rfl)⟩, by kernel_rfl, by kernel_rfl, by kernel_rfl, kcast (by kernel_rfl) (⟨laws_markIntS_e0v_ls_r0, trivial⟩ : (∀ p, run laws_markIntS_e0v_ls_x (subc [1, 0, 1, 0, 0] c22) .nil (laws_markIntS_e0v_ls_J0.S p) (leaf laws_markIntS_e0v_ls_J0 laws_markIntS_e0v_ls_O0) = laws_markIntS_e0v_ls_B0 p) ∧ True), by kernel_rfl, fun x y => by kernel_rfl⟩
theorem laws_markIntS_e0v_ls_s : laws_markIntS_e0v_ls_D.Says Tryz.prog := laws_markIntS_e0v_ls_w.says follows tabOk laws_markGraph_tpv0v_ls_e_ok
noncomputable def laws_markIntS_e0v_ls_e : Env := more laws_markGraph_tpv0v_ls_e laws_markIntS_e0v_ls_D
theorem laws_markIntS_e0v_ls_e_ok : EnvOk Tryz.prog laws_markIntS_e0v_ls_e := more_ok laws_markGraph_tpv0v_ls_e_ok laws_markIntS_e0v_ls_s
/-! loop.example/g01128/laws.markStudio -/
abbrev laws_markStudio_tppv0fspvp0ssfp0sssfp0ssssfvv_bpps1psp1p1p1s_E : Ve.End := ⟨[⟨4, .shr, I, none⟩], [.box (.prod (.prod .shr (.own .shr)) (.prod .shr (.prod (.own .shr) (.prod (.own .shr) (.prod (.own .shr) .shr))))) (.prod (.prod I (.list (.prod I I))) (.prod I (.prod (.list I) (.prod (.list I) (.prod (.list I) I)))))]⟩
abbrev laws_markStudio_tppv0fspvp0ssfp0sssfp0ssssfvv_bpps1psp1p1p1s_a : List ASh := [.str (.pr (.pr (.val I) (.ref (.prod I I) 0 [.fst, .snd])) (.pr (.val I) (.pr (.ref I 0 [.snd, .snd, .fst]) (.pr (.ref I 0 [.snd, .snd, .snd, .fst]) (.pr (.ref I 0 [.snd, .snd, .snd, .snd, .fst]) (.val I)))))), .val I]
abbrev laws_markStudio_tppv0fspvp0ssfp0sssfp0ssssfvv_bpps1psp1p1p1s_o : List OSh := [.box (.prod (.prod .shr (.own .shr)) (.prod .shr (.prod (.own .shr) (.prod (.own .shr) (.prod (.own .shr) .shr))))) (.prod (.prod I (.list (.prod I I))) (.prod I (.prod (.list I) (.prod (.list I) (.prod (.list I) I)))))]
noncomputable def laws_markStudio_tppv0fspvp0ssfp0sssfp0ssssfvv_bpps1psp1p1p1s : argP laws_markStudio_tppv0fspvp0ssfp0sssfp0ssssfvv_bpps1psp1p1p1s_a → obP (extObs 0 laws_markStudio_tppv0fspvp0ssfp0sssfp0ssssfvv_bpps1psp1p1p1s_o) → Option laws_markStudio_tppv0fspvp0ssfp0sssfp0ssssfvv_bpps1psp1p1p1s_E.P
  | (((a, ()), (a2, ((), ((), ((), a3))))), k, ()), (o0, ()) => match laws_markGraph_tpv0v_ls ((a, ()), k, ()) (o0.1.2, ()) with | some ((r, ()), (o, ())) => (match laws_markIntS_e0v_ls (r, ()) (o0.2.2.1, ()) with | some ((r2, ()), (o2, ())) => (match laws_markIntS_e0v_ls (r2, ()) (o0.2.2.2.1, ()) with | some ((r3, ()), (o3, ())) => (match laws_markIntS_e0v_ls (r3, ()) (o0.2.2.2.2.1, ()) with | some ((r4, ()), (o4, ())) => some ((r4, ()), (((o0.1.1, o), (o0.2.1, (o2, (o3, (o4, o0.2.2.2.2.2))))), ())) | none => none) | none => none) | none => none) | none => none
noncomputable def laws_markStudio_tppv0fspvp0ssfp0sssfp0ssssfvv_bpps1psp1p1p1s_x : Cx := ⟨tab, laws_markIntS_e0v_ls_e, fun f n => bif Nat.beq f 22 && Nat.beq n 0 then 1 else bif Nat.beq f 62 && Nat.beq n 0 then 1 else 0, fun n => Nat.beq n 2, [(8, 0), (8, 1), (8, 2), (8, 3), (12, 0), (12, 1), (12, 2), (12, 3), (16, 0), (16, 1), (16, 2), (16, 3), (20, 0), (20, 1), (20, 2), (20, 3)], []⟩
noncomputable def c16 : Code := bodyOf Tryz.f16
noncomputable def laws_markStudio_tppv0fspvp0ssfp0sssfp0ssssfvv_bpps1psp1p1p1s_A : Ann := .nil
noncomputable def laws_markStudio_tppv0fspvp0ssfp0sssfp0ssssfvv_bpps1psp1p1p1s_D : Ve.Fn := ⟨16, laws_markStudio_tppv0fspvp0ssfp0sssfp0ssssfvv_bpps1psp1p1p1s_a, laws_markStudio_tppv0fspvp0ssfp0sssfp0ssssfvv_bpps1psp1p1p1s_o, laws_markStudio_tppv0fspvp0ssfp0sssfp0ssssfvv_bpps1psp1p1p1s_E, laws_markStudio_tppv0fspvp0ssfp0sssfp0ssssfvv_bpps1psp1p1p1s⟩
theorem laws_markStudio_tppv0fspvp0ssfp0sssfp0ssssfvv_bpps1psp1p1p1s_w : Walk Tryz.prog laws_markStudio_tppv0fspvp0ssfp0sssfp0ssssfvv_bpps1psp1p1p1s_x laws_markStudio_tppv0fspvp0ssfp0sssfp0ssssfvv_bpps1psp1p1p1s_D Tryz.f16 c16 22 laws_markStudio_tppv0fspvp0ssfp0sssfp0ssssfvv_bpps1psp1p1p1s_A :=
  ⟨⟨Tryz.func16, by kernel_rfl, by kernel_rfl, by kernel_rfl, by decide, by kernel_rfl, Nat.le_of_ble_eq_true (by kernel_rfl)⟩, by kernel_rfl, by kernel_rfl, by kernel_rfl, kcast (by kernel_rfl) trivial, by kernel_rfl, fun x y => by kernel_rfl⟩
theorem laws_markStudio_tppv0fspvp0ssfp0sssfp0ssssfvv_bpps1psp1p1p1s_s : laws_markStudio_tppv0fspvp0ssfp0sssfp0ssssfvv_bpps1psp1p1p1s_D.Says Tryz.prog := laws_markStudio_tppv0fspvp0ssfp0sssfp0ssssfvv_bpps1psp1p1p1s_w.says follows tabOk laws_markIntS_e0v_ls_e_ok
noncomputable def laws_markStudio_tppv0fspvp0ssfp0sssfp0ssssfvv_bpps1psp1p1p1s_e : Env := more laws_markIntS_e0v_ls_e laws_markStudio_tppv0fspvp0ssfp0sssfp0ssssfvv_bpps1psp1p1p1s_D
theorem laws_markStudio_tppv0fspvp0ssfp0sssfp0ssssfvv_bpps1psp1p1p1s_e_ok : EnvOk Tryz.prog laws_markStudio_tppv0fspvp0ssfp0sssfp0ssssfvv_bpps1psp1p1p1s_e := more_ok laws_markIntS_e0v_ls_e_ok laws_markStudio_tppv0fspvp0ssfp0sssfp0ssssfvv_bpps1psp1p1p1s_s
/-! loop.example/g01128/laws.markStudio -/
abbrev laws_markStudio_tppv0ffspvp0fssfp0fsssfp0fssssfvv_bppps1psp1p1p1ss_E : Ve.End := ⟨[⟨4, .shr, I, none⟩], [.box (.prod (.prod (.prod .shr (.own .shr)) (.prod .shr (.prod (.own .shr) (.prod (.own .shr) (.prod (.own .shr) .shr))))) .shr) (.prod (.prod (.prod I (.list (.prod I I))) (.prod I (.prod (.list I) (.prod (.list I) (.prod (.list I) I))))) (.prod .str (.prod .str I)))]⟩
abbrev laws_markStudio_tppv0ffspvp0fssfp0fsssfp0fssssfvv_bppps1psp1p1p1ss_a : List ASh := [.str (.pr (.pr (.val I) (.ref (.prod I I) 0 [.fst, .fst, .snd])) (.pr (.val I) (.pr (.ref I 0 [.fst, .snd, .snd, .fst]) (.pr (.ref I 0 [.fst, .snd, .snd, .snd, .fst]) (.pr (.ref I 0 [.fst, .snd, .snd, .snd, .snd, .fst]) (.val I)))))), .val I]
abbrev laws_markStudio_tppv0ffspvp0fssfp0fsssfp0fssssfvv_bppps1psp1p1p1ss_o : List OSh := [.box (.prod (.prod (.prod .shr (.own .shr)) (.prod .shr (.prod (.own .shr) (.prod (.own .shr) (.prod (.own .shr) .shr))))) .shr) (.prod (.prod (.prod I (.list (.prod I I))) (.prod I (.prod (.list I) (.prod (.list I) (.prod (.list I) I))))) (.prod .str (.prod .str I)))]
noncomputable def laws_markStudio_tppv0ffspvp0fssfp0fsssfp0fssssfvv_bppps1psp1p1p1ss : argP laws_markStudio_tppv0ffspvp0fssfp0fsssfp0fssssfvv_bppps1psp1p1p1ss_a → obP (extObs 0 laws_markStudio_tppv0ffspvp0fssfp0fsssfp0fssssfvv_bppps1psp1p1p1ss_o) → Option laws_markStudio_tppv0ffspvp0fssfp0fsssfp0fssssfvv_bppps1psp1p1p1ss_E.P
  | (((a, ()), (a2, ((), ((), ((), a3))))), k, ()), (o0, ()) => match laws_markGraph_tpv0v_ls ((a, ()), k, ()) (o0.1.1.2, ()) with | some ((r, ()), (o, ())) => (match laws_markIntS_e0v_ls (r, ()) (o0.1.2.2.1, ()) with | some ((r2, ()), (o2, ())) => (match laws_markIntS_e0v_ls (r2, ()) (o0.1.2.2.2.1, ()) with | some ((r3, ()), (o3, ())) => (match laws_markIntS_e0v_ls (r3, ()) (o0.1.2.2.2.2.1, ()) with | some ((r4, ()), (o4, ())) => some ((r4, ()), ((((o0.1.1.1, o), (o0.1.2.1, (o2, (o3, (o4, o0.1.2.2.2.2.2))))), o0.2), ())) | none => none) | none => none) | none => none) | none => none
noncomputable def laws_markStudio_tppv0ffspvp0fssfp0fsssfp0fssssfvv_bppps1psp1p1p1ss_x : Cx := ⟨tab, laws_markStudio_tppv0fspvp0ssfp0sssfp0ssssfvv_bpps1psp1p1p1s_e, fun f n => bif Nat.beq f 22 && Nat.beq n 0 then 1 else bif Nat.beq f 62 && Nat.beq n 0 then 1 else 0, fun n => Nat.beq n 2, [(8, 0), (8, 1), (8, 2), (8, 3), (12, 0), (12, 1), (12, 2), (12, 3), (16, 0), (16, 1), (16, 2), (16, 3), (20, 0), (20, 1), (20, 2), (20, 3)], []⟩
noncomputable def laws_markStudio_tppv0ffspvp0fssfp0fsssfp0fssssfvv_bppps1psp1p1p1ss_A : Ann := .nil
noncomputable def laws_markStudio_tppv0ffspvp0fssfp0fsssfp0fssssfvv_bppps1psp1p1p1ss_D : Ve.Fn := ⟨16, laws_markStudio_tppv0ffspvp0fssfp0fsssfp0fssssfvv_bppps1psp1p1p1ss_a, laws_markStudio_tppv0ffspvp0fssfp0fsssfp0fssssfvv_bppps1psp1p1p1ss_o, laws_markStudio_tppv0ffspvp0fssfp0fsssfp0fssssfvv_bppps1psp1p1p1ss_E, laws_markStudio_tppv0ffspvp0fssfp0fsssfp0fssssfvv_bppps1psp1p1p1ss⟩
theorem laws_markStudio_tppv0ffspvp0fssfp0fsssfp0fssssfvv_bppps1psp1p1p1ss_w : Walk Tryz.prog laws_markStudio_tppv0ffspvp0fssfp0fsssfp0fssssfvv_bppps1psp1p1p1ss_x laws_markStudio_tppv0ffspvp0fssfp0fsssfp0fssssfvv_bppps1psp1p1p1ss_D Tryz.f16 c16 22 laws_markStudio_tppv0ffspvp0fssfp0fsssfp0fssssfvv_bppps1psp1p1p1ss_A :=
  ⟨⟨Tryz.func16, by kernel_rfl, by kernel_rfl, by kernel_rfl, by decide, by kernel_rfl, Nat.le_of_ble_eq_true (by kernel_rfl)⟩, by kernel_rfl, by kernel_rfl, by kernel_rfl, kcast (by kernel_rfl) trivial, by kernel_rfl, fun x y => by kernel_rfl⟩
theorem laws_markStudio_tppv0ffspvp0fssfp0fsssfp0fssssfvv_bppps1psp1p1p1ss_s : laws_markStudio_tppv0ffspvp0fssfp0fsssfp0fssssfvv_bppps1psp1p1p1ss_D.Says Tryz.prog := laws_markStudio_tppv0ffspvp0fssfp0fsssfp0fssssfvv_bppps1psp1p1p1ss_w.says follows tabOk laws_markStudio_tppv0fspvp0ssfp0sssfp0ssssfvv_bpps1psp1p1p1s_e_ok
noncomputable def laws_markStudio_tppv0ffspvp0fssfp0fsssfp0fssssfvv_bppps1psp1p1p1ss_e : Env := more laws_markStudio_tppv0fspvp0ssfp0sssfp0ssssfvv_bpps1psp1p1p1s_e laws_markStudio_tppv0ffspvp0fssfp0fsssfp0fssssfvv_bppps1psp1p1p1ss_D
theorem laws_markStudio_tppv0ffspvp0fssfp0fsssfp0fssssfvv_bppps1psp1p1p1ss_e_ok : EnvOk Tryz.prog laws_markStudio_tppv0ffspvp0fssfp0fsssfp0fssssfvv_bppps1psp1p1p1ss_e := more_ok laws_markStudio_tppv0fspvp0ssfp0sssfp0ssssfvv_bpps1psp1p1p1s_e_ok laws_markStudio_tppv0ffspvp0fssfp0fsssfp0fssssfvv_bppps1psp1p1p1ss_s
/-! loop.example/g01128/laws.markConsole -/
abbrev laws_markConsole_tpppv0ffspvp0fssfp0fsssfp0fssssfvvv_bppps1psp1p1p1ss_E : Ve.End := ⟨[⟨4, .shr, I, none⟩], [.box (.prod (.prod (.prod .shr (.own .shr)) (.prod .shr (.prod (.own .shr) (.prod (.own .shr) (.prod (.own .shr) .shr))))) .shr) (.prod (.prod (.prod I (.list (.prod I I))) (.prod I (.prod (.list I) (.prod (.list I) (.prod (.list I) I))))) (.prod .str (.prod .str I)))]⟩
abbrev laws_markConsole_tpppv0ffspvp0fssfp0fsssfp0fssssfvvv_bppps1psp1p1p1ss_a : List ASh := [.str (.pr (.pr (.pr (.val I) (.ref (.prod I I) 0 [.fst, .fst, .snd])) (.pr (.val I) (.pr (.ref I 0 [.fst, .snd, .snd, .fst]) (.pr (.ref I 0 [.fst, .snd, .snd, .snd, .fst]) (.pr (.ref I 0 [.fst, .snd, .snd, .snd, .snd, .fst]) (.val I)))))) (.val (.prod .str (.prod .str I)))), .val I]
abbrev laws_markConsole_tpppv0ffspvp0fssfp0fsssfp0fssssfvvv_bppps1psp1p1p1ss_o : List OSh := [.box (.prod (.prod (.prod .shr (.own .shr)) (.prod .shr (.prod (.own .shr) (.prod (.own .shr) (.prod (.own .shr) .shr))))) .shr) (.prod (.prod (.prod I (.list (.prod I I))) (.prod I (.prod (.list I) (.prod (.list I) (.prod (.list I) I))))) (.prod .str (.prod .str I)))]
noncomputable def laws_markConsole_tpppv0ffspvp0fssfp0fsssfp0fssssfvvv_bppps1psp1p1p1ss : argP laws_markConsole_tpppv0ffspvp0fssfp0fsssfp0fssssfvvv_bppps1psp1p1p1ss_a → obP (extObs 0 laws_markConsole_tpppv0ffspvp0fssfp0fsssfp0fssssfvvv_bppps1psp1p1p1ss_o) → Option laws_markConsole_tpppv0ffspvp0fssfp0fsssfp0fssssfvvv_bppps1psp1p1p1ss_E.P
  | ((((a, ()), (a2, ((), ((), ((), a3))))), a4), k, ()), (o0, ()) => match laws_markStudio_tppv0ffspvp0fssfp0fsssfp0fssssfvv_bppps1psp1p1p1ss (((a, ()), (a2, ((), ((), ((), a3))))), k, ()) (o0, ()) with | some ((r, ()), (o, ())) => some ((r, ()), (o, ())) | none => none
noncomputable def laws_markConsole_tpppv0ffspvp0fssfp0fsssfp0fssssfvvv_bppps1psp1p1p1ss_x : Cx := ⟨tab, laws_markStudio_tppv0ffspvp0fssfp0fsssfp0fssssfvv_bppps1psp1p1p1ss_e, fun f n => bif Nat.beq f 16 && Nat.beq n 0 then 1 else 0, fun n => Nat.beq n 2, [(8, 0), (8, 1), (8, 2), (8, 3)], []⟩
noncomputable def c17 : Code := bodyOf Tryz.f17
noncomputable def laws_markConsole_tpppv0ffspvp0fssfp0fsssfp0fssssfvvv_bppps1psp1p1p1ss_A : Ann := .nil
noncomputable def laws_markConsole_tpppv0ffspvp0fssfp0fsssfp0fssssfvvv_bppps1psp1p1p1ss_D : Ve.Fn := ⟨17, laws_markConsole_tpppv0ffspvp0fssfp0fsssfp0fssssfvvv_bppps1psp1p1p1ss_a, laws_markConsole_tpppv0ffspvp0fssfp0fsssfp0fssssfvvv_bppps1psp1p1p1ss_o, laws_markConsole_tpppv0ffspvp0fssfp0fsssfp0fssssfvvv_bppps1psp1p1p1ss_E, laws_markConsole_tpppv0ffspvp0fssfp0fsssfp0fssssfvvv_bppps1psp1p1p1ss⟩
theorem laws_markConsole_tpppv0ffspvp0fssfp0fsssfp0fssssfvvv_bppps1psp1p1p1ss_w : Walk Tryz.prog laws_markConsole_tpppv0ffspvp0fssfp0fsssfp0fssssfvvv_bppps1psp1p1p1ss_x laws_markConsole_tpppv0ffspvp0fssfp0fsssfp0fssssfvvv_bppps1psp1p1p1ss_D Tryz.f17 c17 10 laws_markConsole_tpppv0ffspvp0fssfp0fsssfp0fssssfvvv_bppps1psp1p1p1ss_A :=
  ⟨⟨Tryz.func17, by kernel_rfl, by kernel_rfl, by kernel_rfl, by decide, by kernel_rfl, Nat.le_of_ble_eq_true (by kernel_rfl)⟩, by kernel_rfl, by kernel_rfl, by kernel_rfl, kcast (by kernel_rfl) trivial, by kernel_rfl, fun x y => by kernel_rfl⟩
theorem laws_markConsole_tpppv0ffspvp0fssfp0fsssfp0fssssfvvv_bppps1psp1p1p1ss_s : laws_markConsole_tpppv0ffspvp0fssfp0fsssfp0fssssfvvv_bppps1psp1p1p1ss_D.Says Tryz.prog := laws_markConsole_tpppv0ffspvp0fssfp0fsssfp0fssssfvvv_bppps1psp1p1p1ss_w.says follows tabOk laws_markStudio_tppv0ffspvp0fssfp0fsssfp0fssssfvv_bppps1psp1p1p1ss_e_ok
noncomputable def laws_markConsole_tpppv0ffspvp0fssfp0fsssfp0fssssfvvv_bppps1psp1p1p1ss_e : Env := more laws_markStudio_tppv0ffspvp0fssfp0fsssfp0fssssfvv_bppps1psp1p1p1ss_e laws_markConsole_tpppv0ffspvp0fssfp0fsssfp0fssssfvvv_bppps1psp1p1p1ss_D
theorem laws_markConsole_tpppv0ffspvp0fssfp0fsssfp0fssssfvvv_bppps1psp1p1p1ss_e_ok : EnvOk Tryz.prog laws_markConsole_tpppv0ffspvp0fssfp0fsssfp0fssssfvvv_bppps1psp1p1p1ss_e := more_ok laws_markStudio_tppv0ffspvp0fssfp0fsssfp0fssssfvv_bppps1psp1p1p1ss_e_ok laws_markConsole_tpppv0ffspvp0fssfp0fsssfp0fssssfvvv_bppps1psp1p1p1ss_s
/-! loop.example/g01128/laws.heldIntA2S -/
abbrev laws_heldIntA2S_J0 : Tpl := ⟨[(0, .val (.list (.prod I I))), (1, .val I), (5, .val I), (6, .val I)], [], []⟩
abbrev laws_heldIntA2S_J1 : Tpl := ⟨[(4, .val I)], [], []⟩
abbrev laws_heldIntA2S_J2 : Tpl := ⟨[(0, .val (.list (.prod I I))), (1, .val I), (5, .val I)], [], []⟩
abbrev laws_heldIntA2S_J3 : Tpl := ⟨[(1, .val I)], [], []⟩
abbrev laws_heldIntA2S_E : Ve.End := ⟨[⟨4, .shr, I, none⟩], []⟩
abbrev laws_heldIntA2S_a : List ASh := [.val (.list (.prod I I)), .val I]
abbrev laws_heldIntA2S_o : List OSh := []
abbrev laws_heldIntA2S_O0 : Out := .or .ret laws_heldIntA2S_J1 (.one (.ex 2) laws_heldIntA2S_J2)
noncomputable def laws_heldIntA2S_B0 : laws_heldIntA2S_J0.P → Option (laws_heldIntA2S_J0.P ⊕ laws_heldIntA2S_O0.P)
  | ((a, k, i, j, ()), ()) => bif (decide (j < (2 : Int))) then (guardB (inb i (List.length a)) (guardB (decide (0 ≤ j) && decide (j < 2)) (bif ((bif Nat.beq (Int.toNat j) 0 then (List.getD a (Int.toNat i) ((0 : Int), (0 : Int))).1 else (List.getD a (Int.toNat i) ((0 : Int), (0 : Int))).2) != k) then (some (.inr (.inl (((-1 : Int), ()), ())))) else (some (.inl ((a, (w64 (k + (1 : Int))), i, (w64 (j + (1 : Int))), ()), ())))))) else (some (.inr (.inr ((a, k, i, ()), ()))))
abbrev laws_heldIntA2S_O1 : Out := .or .ret laws_heldIntA2S_J1 (.one (.ex 0) laws_heldIntA2S_J3)
noncomputable def laws_heldIntA2S_B1 : laws_heldIntA2S_J2.P → Option (laws_heldIntA2S_J2.P ⊕ laws_heldIntA2S_O1.P)
  | ((a, k, i, ()), ()) => bif (decide (i < (List.length a : Int))) then (match loopO laws_heldIntA2S_B0 ((a, k, i, (0 : Int), ()), ()) with | some (.inl ((t4, ()), ())) => some (.inr (.inl ((t4, ()), ()))) | some (.inr ((a2, k2, i2, ()), ())) => some (.inl ((a2, k2, (w64 (i2 + (1 : Int))), ()), ())) | none => none) else (some (.inr (.inr ((k, ()), ()))))
noncomputable def laws_heldIntA2S : argP laws_heldIntA2S_a → obP (extObs 0 laws_heldIntA2S_o) → Option laws_heldIntA2S_E.P
  | (a, k, ()), () => match loopO laws_heldIntA2S_B1 ((a, k, (0 : Int), ()), ()) with | some (.inl ((t4, ()), ())) => some ((t4, ()), ()) | some (.inr ((k2, ()), ())) => some ((k2, ()), ()) | none => none
noncomputable def laws_heldIntA2S_x : Cx := ⟨tab, laws_markConsole_tpppv0ffspvp0fssfp0fsssfp0fssssfvvv_bppps1psp1p1p1ss_e, fun _ _ => 0, fun _ => false, [], []⟩
noncomputable def c139 : Code := bodyOf Tryz.f139
noncomputable def laws_heldIntA2S_A : Ann := .seq .nil (.seq (.seq .nil (.loop laws_heldIntA2S_J2 laws_heldIntA2S_O1 laws_heldIntA2S_B1 (.seq .nil (.seq (.seq .nil (.loop laws_heldIntA2S_J0 laws_heldIntA2S_O0 laws_heldIntA2S_B0 .nil)) .nil)))) .nil)
theorem laws_heldIntA2S_r0 (p : laws_heldIntA2S_J2.P) : run laws_heldIntA2S_x (subc [1, 0, 1, 0, 0] c139) (.seq .nil (.seq (.seq .nil (.loop laws_heldIntA2S_J0 laws_heldIntA2S_O0 laws_heldIntA2S_B0 .nil)) .nil)) (laws_heldIntA2S_J2.S p) (leaf laws_heldIntA2S_J2 laws_heldIntA2S_O1) = laws_heldIntA2S_B1 p := by kernel_rfl
theorem laws_heldIntA2S_r1 (p : laws_heldIntA2S_J0.P) : run laws_heldIntA2S_x (subc [1, 0, 1, 0, 0, 1, 0, 0, 1, 0, 0] c139) .nil (laws_heldIntA2S_J0.S p) (leaf laws_heldIntA2S_J0 laws_heldIntA2S_O0) = laws_heldIntA2S_B0 p := by kernel_rfl
noncomputable def laws_heldIntA2S_D : Ve.Fn := ⟨139, laws_heldIntA2S_a, laws_heldIntA2S_o, laws_heldIntA2S_E, laws_heldIntA2S⟩
theorem laws_heldIntA2S_w : Walk Tryz.prog laws_heldIntA2S_x laws_heldIntA2S_D Tryz.f139 c139 28 laws_heldIntA2S_A :=
  ⟨⟨Tryz.func139, by kernel_rfl, by kernel_rfl, by kernel_rfl, by decide, by kernel_rfl, Nat.le_of_ble_eq_true (by kernel_rfl)⟩, by kernel_rfl, by kernel_rfl, by kernel_rfl, kcast (by kernel_rfl) (⟨laws_heldIntA2S_r0, laws_heldIntA2S_r1, trivial⟩ : (∀ p, run laws_heldIntA2S_x (subc [1, 0, 1, 0, 0] c139) (.seq .nil (.seq (.seq .nil (.loop laws_heldIntA2S_J0 laws_heldIntA2S_O0 laws_heldIntA2S_B0 .nil)) .nil)) (laws_heldIntA2S_J2.S p) (leaf laws_heldIntA2S_J2 laws_heldIntA2S_O1) = laws_heldIntA2S_B1 p) ∧ (∀ p, run laws_heldIntA2S_x (subc [1, 0, 1, 0, 0, 1, 0, 0, 1, 0, 0] c139) .nil (laws_heldIntA2S_J0.S p) (leaf laws_heldIntA2S_J0 laws_heldIntA2S_O0) = laws_heldIntA2S_B0 p) ∧ True), by kernel_rfl, fun x y => by kernel_rfl⟩
theorem laws_heldIntA2S_s : laws_heldIntA2S_D.Says Tryz.prog := laws_heldIntA2S_w.says follows tabOk laws_markConsole_tpppv0ffspvp0fssfp0fsssfp0fssssfvvv_bppps1psp1p1p1ss_e_ok
noncomputable def laws_heldIntA2S_e : Env := more laws_markConsole_tpppv0ffspvp0fssfp0fsssfp0fssssfvvv_bppps1psp1p1p1ss_e laws_heldIntA2S_D
theorem laws_heldIntA2S_e_ok : EnvOk Tryz.prog laws_heldIntA2S_e := more_ok laws_markConsole_tpppv0ffspvp0fssfp0fsssfp0fssssfvvv_bppps1psp1p1p1ss_e_ok laws_heldIntA2S_s
/-! loop.example/g01128/laws.heldGraph -/
abbrev laws_heldGraph_E : Ve.End := ⟨[⟨4, .shr, I, none⟩], []⟩
abbrev laws_heldGraph_a : List ASh := [.val (.prod I (.list (.prod I I))), .val I]
abbrev laws_heldGraph_o : List OSh := []
noncomputable def laws_heldGraph : argP laws_heldGraph_a → obP (extObs 0 laws_heldGraph_o) → Option laws_heldGraph_E.P
  | (a, k, ()), () => match laws_heldIntA2S (a.2, k, ()) () with | some ((r, ()), ()) => (bif (decide (r < (0 : Int))) then (some (((-1 : Int), ()), ())) else (some ((r, ()), ()))) | none => none
noncomputable def laws_heldGraph_x : Cx := ⟨tab, laws_heldIntA2S_e, fun _ _ => 0, fun _ => false, [(8, 0), (8, 1), (8, 2), (8, 3)], [(2, 0)]⟩
noncomputable def c79 : Code := bodyOf Tryz.f79
noncomputable def laws_heldGraph_A : Ann := .nil
noncomputable def laws_heldGraph_D : Ve.Fn := ⟨79, laws_heldGraph_a, laws_heldGraph_o, laws_heldGraph_E, laws_heldGraph⟩
theorem laws_heldGraph_w : Walk Tryz.prog laws_heldGraph_x laws_heldGraph_D Tryz.f79 c79 12 laws_heldGraph_A :=
  ⟨⟨Tryz.func79, by kernel_rfl, by kernel_rfl, by kernel_rfl, by decide, by kernel_rfl, Nat.le_of_ble_eq_true (by kernel_rfl)⟩, by kernel_rfl, by kernel_rfl, by kernel_rfl, kcast (by kernel_rfl) trivial, by kernel_rfl, fun x y => by kernel_rfl⟩
theorem laws_heldGraph_s : laws_heldGraph_D.Says Tryz.prog := laws_heldGraph_w.says follows tabOk laws_heldIntA2S_e_ok
noncomputable def laws_heldGraph_e : Env := more laws_heldIntA2S_e laws_heldGraph_D
theorem laws_heldGraph_e_ok : EnvOk Tryz.prog laws_heldGraph_e := more_ok laws_heldIntA2S_e_ok laws_heldGraph_s
/-! loop.example/g01128/laws.heldIntS -/
abbrev laws_heldIntS_J0 : Tpl := ⟨[(0, .val (.list I)), (1, .val I), (5, .val I)], [], []⟩
abbrev laws_heldIntS_J1 : Tpl := ⟨[(4, .val I)], [], []⟩
abbrev laws_heldIntS_J2 : Tpl := ⟨[(1, .val I)], [], []⟩
abbrev laws_heldIntS_E : Ve.End := ⟨[⟨4, .shr, I, none⟩], []⟩
abbrev laws_heldIntS_a : List ASh := [.val (.list I), .val I]
abbrev laws_heldIntS_o : List OSh := []
abbrev laws_heldIntS_O0 : Out := .or .ret laws_heldIntS_J1 (.one (.ex 0) laws_heldIntS_J2)
noncomputable def laws_heldIntS_B0 : laws_heldIntS_J0.P → Option (laws_heldIntS_J0.P ⊕ laws_heldIntS_O0.P)
  | ((a, k, i, ()), ()) => bif (decide (i < (List.length a : Int))) then (guardB (inb i (List.length a)) (bif ((List.getD a (Int.toNat i) (0 : Int)) != k) then (some (.inr (.inl (((-1 : Int), ()), ())))) else (some (.inl ((a, (w64 (k + (1 : Int))), (w64 (i + (1 : Int))), ()), ()))))) else (some (.inr (.inr ((k, ()), ()))))
noncomputable def laws_heldIntS : argP laws_heldIntS_a → obP (extObs 0 laws_heldIntS_o) → Option laws_heldIntS_E.P
  | (a, k, ()), () => match loopO laws_heldIntS_B0 ((a, k, (0 : Int), ()), ()) with | some (.inl ((t4, ()), ())) => some ((t4, ()), ()) | some (.inr ((k2, ()), ())) => some ((k2, ()), ()) | none => none
noncomputable def laws_heldIntS_x : Cx := ⟨tab, laws_heldGraph_e, fun _ _ => 0, fun _ => false, [], []⟩
noncomputable def c23 : Code := bodyOf Tryz.f23
noncomputable def laws_heldIntS_A : Ann := .seq .nil (.seq (.seq .nil (.loop laws_heldIntS_J0 laws_heldIntS_O0 laws_heldIntS_B0 .nil)) .nil)
theorem laws_heldIntS_r0 (p : laws_heldIntS_J0.P) : run laws_heldIntS_x (subc [1, 0, 1, 0, 0] c23) .nil (laws_heldIntS_J0.S p) (leaf laws_heldIntS_J0 laws_heldIntS_O0) = laws_heldIntS_B0 p := by kernel_rfl
noncomputable def laws_heldIntS_D : Ve.Fn := ⟨23, laws_heldIntS_a, laws_heldIntS_o, laws_heldIntS_E, laws_heldIntS⟩
theorem laws_heldIntS_w : Walk Tryz.prog laws_heldIntS_x laws_heldIntS_D Tryz.f23 c23 21 laws_heldIntS_A :=
  ⟨⟨Tryz.func23, by kernel_rfl, by kernel_rfl, by kernel_rfl, by decide, by kernel_rfl, Nat.le_of_ble_eq_true (by kernel_rfl)⟩, by kernel_rfl, by kernel_rfl, by kernel_rfl, kcast (by kernel_rfl) (⟨laws_heldIntS_r0, trivial⟩ : (∀ p, run laws_heldIntS_x (subc [1, 0, 1, 0, 0] c23) .nil (laws_heldIntS_J0.S p) (leaf laws_heldIntS_J0 laws_heldIntS_O0) = laws_heldIntS_B0 p) ∧ True), by kernel_rfl, fun x y => by kernel_rfl⟩
theorem laws_heldIntS_s : laws_heldIntS_D.Says Tryz.prog := laws_heldIntS_w.says follows tabOk laws_heldGraph_e_ok
noncomputable def laws_heldIntS_e : Env := more laws_heldGraph_e laws_heldIntS_D
theorem laws_heldIntS_e_ok : EnvOk Tryz.prog laws_heldIntS_e := more_ok laws_heldGraph_e_ok laws_heldIntS_s
/-! loop.example/g01128/laws.heldStudio -/
abbrev laws_heldStudio_E : Ve.End := ⟨[⟨4, .shr, I, none⟩], []⟩
abbrev laws_heldStudio_a : List ASh := [.val (.prod (.prod I (.list (.prod I I))) (.prod I (.prod (.list I) (.prod (.list I) (.prod (.list I) I))))), .val I]
abbrev laws_heldStudio_o : List OSh := []
noncomputable def laws_heldStudio : argP laws_heldStudio_a → obP (extObs 0 laws_heldStudio_o) → Option laws_heldStudio_E.P
  | (a, k, ()), () => match laws_heldGraph (a.1, k, ()) () with | some ((r, ()), ()) => (bif (decide (r < (0 : Int))) then (some (((-1 : Int), ()), ())) else (match laws_heldIntS (a.2.2.1, r, ()) () with | some ((r2, ()), ()) => (bif (decide (r2 < (0 : Int))) then (some (((-1 : Int), ()), ())) else (match laws_heldIntS (a.2.2.2.1, r2, ()) () with | some ((r3, ()), ()) => (bif (decide (r3 < (0 : Int))) then (some (((-1 : Int), ()), ())) else (match laws_heldIntS (a.2.2.2.2.1, r3, ()) () with | some ((r4, ()), ()) => (bif (decide (r4 < (0 : Int))) then (some (((-1 : Int), ()), ())) else (some ((r4, ()), ()))) | none => none)) | none => none)) | none => none)) | none => none
noncomputable def laws_heldStudio_x : Cx := ⟨tab, laws_heldIntS_e, fun _ _ => 0, fun _ => false, [(8, 0), (8, 1), (8, 2), (8, 3), (14, 0), (14, 1), (14, 2), (14, 3), (20, 0), (20, 1), (20, 2), (20, 3), (26, 0), (26, 1), (26, 2), (26, 3)], [(2, 0)]⟩
noncomputable def c30 : Code := bodyOf Tryz.f30
noncomputable def laws_heldStudio_A : Ann := .nil
noncomputable def laws_heldStudio_D : Ve.Fn := ⟨30, laws_heldStudio_a, laws_heldStudio_o, laws_heldStudio_E, laws_heldStudio⟩
theorem laws_heldStudio_w : Walk Tryz.prog laws_heldStudio_x laws_heldStudio_D Tryz.f30 c30 30 laws_heldStudio_A :=
  ⟨⟨Tryz.func30, by kernel_rfl, by kernel_rfl, by kernel_rfl, by decide, by kernel_rfl, Nat.le_of_ble_eq_true (by kernel_rfl)⟩, by kernel_rfl, by kernel_rfl, by kernel_rfl, kcast (by kernel_rfl) trivial, by kernel_rfl, fun x y => by kernel_rfl⟩
theorem laws_heldStudio_s : laws_heldStudio_D.Says Tryz.prog := laws_heldStudio_w.says follows tabOk laws_heldIntS_e_ok
noncomputable def laws_heldStudio_e : Env := more laws_heldIntS_e laws_heldStudio_D
theorem laws_heldStudio_e_ok : EnvOk Tryz.prog laws_heldStudio_e := more_ok laws_heldIntS_e_ok laws_heldStudio_s
/-! loop.example/g01128/laws.heldConsole -/
abbrev laws_heldConsole_E : Ve.End := ⟨[⟨4, .shr, I, none⟩], []⟩
abbrev laws_heldConsole_a : List ASh := [.val (.prod (.prod (.prod I (.list (.prod I I))) (.prod I (.prod (.list I) (.prod (.list I) (.prod (.list I) I))))) (.prod .str (.prod .str I))), .val I]
abbrev laws_heldConsole_o : List OSh := []
noncomputable def laws_heldConsole : argP laws_heldConsole_a → obP (extObs 0 laws_heldConsole_o) → Option laws_heldConsole_E.P
  | (a, k, ()), () => match laws_heldStudio (a.1, k, ()) () with | some ((r, ()), ()) => (bif (decide (r < (0 : Int))) then (some (((-1 : Int), ()), ())) else (some ((r, ()), ()))) | none => none
noncomputable def laws_heldConsole_x : Cx := ⟨tab, laws_heldStudio_e, fun _ _ => 0, fun _ => false, [(8, 0), (8, 1), (8, 2), (8, 3)], [(2, 0)]⟩
noncomputable def c18 : Code := bodyOf Tryz.f18
noncomputable def laws_heldConsole_A : Ann := .nil
noncomputable def laws_heldConsole_D : Ve.Fn := ⟨18, laws_heldConsole_a, laws_heldConsole_o, laws_heldConsole_E, laws_heldConsole⟩
theorem laws_heldConsole_w : Walk Tryz.prog laws_heldConsole_x laws_heldConsole_D Tryz.f18 c18 12 laws_heldConsole_A :=
  ⟨⟨Tryz.func18, by kernel_rfl, by kernel_rfl, by kernel_rfl, by decide, by kernel_rfl, Nat.le_of_ble_eq_true (by kernel_rfl)⟩, by kernel_rfl, by kernel_rfl, by kernel_rfl, kcast (by kernel_rfl) trivial, by kernel_rfl, fun x y => by kernel_rfl⟩
theorem laws_heldConsole_s : laws_heldConsole_D.Says Tryz.prog := laws_heldConsole_w.says follows tabOk laws_heldStudio_e_ok
noncomputable def laws_heldConsole_e : Env := more laws_heldStudio_e laws_heldConsole_D
theorem laws_heldConsole_e_ok : EnvOk Tryz.prog laws_heldConsole_e := more_ok laws_heldStudio_e_ok laws_heldConsole_s
/-! loop.example/g01128/laws.FnExactNewConsole -/
abbrev laws_FnExactNewConsole_J0 : Tpl := ⟨[(1, .cst (.prod (.prod I (.list (.prod I I))) (.prod I (.prod (.list I) (.prod (.list I) (.prod (.list I) I)))))), (4, .cst (.prod (.prod (.prod I (.list (.prod I I))) (.prod I (.prod (.list I) (.prod (.list I) (.prod (.list I) I))))) (.prod .str (.prod .str I)))), (5, .val .bool), (6, .ptr (6, 0)), (7, .ptr (7, 0)), (8, .val .bool), (45, .val .bool)], [((6, 0), .box (.prod (.prod .shr (.own .shr)) (.prod .shr (.prod (.own .shr) (.prod (.own .shr) (.prod (.own .shr) .shr))))) (.prod (.prod I (.list (.prod I I))) (.prod I (.prod (.list I) (.prod (.list I) (.prod (.list I) I)))))), ((7, 0), .box (.prod (.prod (.prod .shr (.own .shr)) (.prod .shr (.prod (.own .shr) (.prod (.own .shr) (.prod (.own .shr) .shr))))) .shr) (.prod (.prod (.prod I (.list (.prod I I))) (.prod I (.prod (.list I) (.prod (.list I) (.prod (.list I) I))))) (.prod .str (.prod .str I))))], []⟩
abbrev laws_FnExactNewConsole_J1 : Tpl := ⟨[(1, .cst (.prod (.prod I (.list (.prod I I))) (.prod I (.prod (.list I) (.prod (.list I) (.prod (.list I) I)))))), (4, .cst (.prod (.prod (.prod I (.list (.prod I I))) (.prod I (.prod (.list I) (.prod (.list I) (.prod (.list I) I))))) (.prod .str (.prod .str I)))), (5, .val .bool), (6, .ptr (6, 0)), (7, .ptr (7, 0)), (8, .val .bool), (42, .val (.prod (.prod I (.list (.prod I I))) (.prod I (.prod (.list I) (.prod (.list I) (.prod (.list I) I))))))], [((6, 0), .box (.prod (.prod .shr (.own .shr)) (.prod .shr (.prod (.own .shr) (.prod (.own .shr) (.prod (.own .shr) .shr))))) (.prod (.prod I (.list (.prod I I))) (.prod I (.prod (.list I) (.prod (.list I) (.prod (.list I) I)))))), ((7, 0), .box (.prod (.prod (.prod .shr (.own .shr)) (.prod .shr (.prod (.own .shr) (.prod (.own .shr) (.prod (.own .shr) .shr))))) .shr) (.prod (.prod (.prod I (.list (.prod I I))) (.prod I (.prod (.list I) (.prod (.list I) (.prod (.list I) I))))) (.prod .str (.prod .str I))))], []⟩
abbrev laws_FnExactNewConsole_E : Ve.End := ⟨[⟨2, .shr, .bool, none⟩], []⟩
abbrev laws_FnExactNewConsole_a : List ASh := [.val (.prod (.prod I (.list (.prod I I))) (.prod I (.prod (.list I) (.prod (.list I) (.prod (.list I) I)))))]
abbrev laws_FnExactNewConsole_o : List OSh := []
noncomputable def laws_FnExactNewConsole_D0 : laws_FnExactNewConsole_J1.P → Option laws_FnExactNewConsole_J0.P
  | ((t1, t4, t5, t8, t42, ()), (t6, t7, ())) => match laws_toStudio (t42, ()) () with | some ((r, ()), ()) => (match laws_eqStudio (((t6.1.1, t6.1.2), (t6.2.1, (t6.2.2.1, (t6.2.2.2.1, (t6.2.2.2.2.1, t6.2.2.2.2.2))))), ((r.1.1, r.1.2), (r.2.1, (r.2.2.1, (r.2.2.2.1, (r.2.2.2.2.1, r.2.2.2.2.2))))), ()) () with | some ((r2, ()), ()) => some ((t1, t4, t5, t8, (!r2), ()), (t6, t7, ())) | none => none) | none => none
noncomputable def laws_FnExactNewConsole_T0 : DT laws_FnExactNewConsole_J0 := .node laws_FnExactNewConsole_J1 laws_FnExactNewConsole_D0 (.br [(0, .sole), (2, .sole), (3, .sole), (4, .flo)] .fin (.br [(2, .sole), (0, .qui), (3, .sole), (4, .flo)] .fin .nobr))
noncomputable def laws_FnExactNewConsole : argP laws_FnExactNewConsole_a → obP (extObs 0 laws_FnExactNewConsole_o) → Option laws_FnExactNewConsole_E.P
  | (t0, ()), () => match laws_szStudio (t0, (1048576 : Int), ()) () with | some ((r, ()), ()) => (bif (decide (r < (0 : Int))) then (some ((true, ()), ())) else (match laws_toStudio (t0, ()) () with | some ((r2, ()), ()) => (match spec_NewConsole (((r2.1.1, r2.1.2), (r2.2.1, (r2.2.2.1, (r2.2.2.2.1, (r2.2.2.2.2.1, r2.2.2.2.2.2))))), ()) () with | some ((r3, r4, ()), ()) => (match laws_toStudio (t0, ()) () with | some ((r5, ()), ()) => (match impl_NewConsole (((r5.1.1, r5.1.2), (r5.2.1, (r5.2.2.1, (r5.2.2.2.1, (r5.2.2.2.2.1, r5.2.2.2.2.2))))), ()) () with | some ((r6, r7, ()), ()) => (match laws_eqConsole ((((r6.1.1.1, r6.1.1.2), (r6.1.2.1, (r6.1.2.2.1, (r6.1.2.2.2.1, (r6.1.2.2.2.2.1, r6.1.2.2.2.2.2))))), r6.2), (((r3.1.1.1, r3.1.1.2), (r3.1.2.1, (r3.1.2.2.1, (r3.1.2.2.2.1, (r3.1.2.2.2.2.1, r3.1.2.2.2.2.2))))), r3.2), ()) () with | some ((r8, ()), ()) => (bif (!r8) then (some ((false, ()), ())) else (bif (!(r7 == r4)) then (some ((false, ()), ())) else (match laws_FnExactNewConsole_D0 ((t0, (((r3.1.1.1, r3.1.1.2), (r3.1.2.1, (r3.1.2.2.1, (r3.1.2.2.2.1, (r3.1.2.2.2.2.1, r3.1.2.2.2.2.2))))), r3.2), r4, r7, t0, ()), (((r5.1.1, r5.1.2), (r5.2.1, (r5.2.2.1, (r5.2.2.2.1, (r5.2.2.2.2.1, r5.2.2.2.2.2))))), (((r6.1.1.1, r6.1.1.2), (r6.1.2.1, (r6.1.2.2.1, (r6.1.2.2.2.1, (r6.1.2.2.2.2.1, r6.1.2.2.2.2.2))))), r6.2), ())) with | some ((t1, t4, t5, t8, t45, ()), (t6, t7, ())) => (bif t45 then (some ((false, ()), ())) else (match laws_markStudio_tppv0fspvp0ssfp0sssfp0ssssfvv_bpps1psp1p1p1s (((t6.1.1, ()), (t6.2.1, ((), ((), ((), t6.2.2.2.2.2))))), (1 : Int), ()) (t6, ()) with | some ((r9, ()), (o, ())) => (bif (decide (r9 < (0 : Int))) then (some ((false, ()), ())) else (match laws_eqConsole ((((t7.1.1.1, t7.1.1.2), (t7.1.2.1, (t7.1.2.2.1, (t7.1.2.2.2.1, (t7.1.2.2.2.2.1, t7.1.2.2.2.2.2))))), t7.2), t4, ()) () with | some ((r10, ()), ()) => (bif (!r10) then (some ((false, ()), ())) else (bif (!(t8 == t5)) then (some ((false, ()), ())) else (match laws_markConsole_tpppv0ffspvp0fssfp0fsssfp0fssssfvvv_bppps1psp1p1p1ss ((((t7.1.1.1, ()), (t7.1.2.1, ((), ((), ((), t7.1.2.2.2.2.2))))), t7.2), (1 : Int), ()) (t7, ()) with | some ((r11, ()), (o2, ())) => (match laws_heldConsole ((((o2.1.1.1, o2.1.1.2), (o2.1.2.1, (o2.1.2.2.1, (o2.1.2.2.2.1, (o2.1.2.2.2.2.1, o2.1.2.2.2.2.2))))), o2.2), (1 : Int), ()) () with | some ((r12, ()), ()) => (bif (decide (r12 < (0 : Int))) then (some ((false, ()), ())) else (bif (r12 != r11) then (some ((false, ()), ())) else (match laws_toStudio (t1, ()) () with | some ((r13, ()), ()) => (match impl_NewConsole (((r13.1.1, r13.1.2), (r13.2.1, (r13.2.2.1, (r13.2.2.2.1, (r13.2.2.2.2.1, r13.2.2.2.2.2))))), ()) () with | some ((r14, r15, ()), ()) => (match laws_eqConsole ((((r14.1.1.1, r14.1.1.2), (r14.1.2.1, (r14.1.2.2.1, (r14.1.2.2.2.1, (r14.1.2.2.2.2.1, r14.1.2.2.2.2.2))))), r14.2), t4, ()) () with | some ((r16, ()), ()) => (bif (!r16) then (some ((false, ()), ())) else (bif (!(r15 == t5)) then (some ((false, ()), ())) else (match laws_heldConsole ((((o2.1.1.1, o2.1.1.2), (o2.1.2.1, (o2.1.2.2.1, (o2.1.2.2.2.1, (o2.1.2.2.2.2.1, o2.1.2.2.2.2.2))))), o2.2), (1 : Int), ()) () with | some ((r17, ()), ()) => (bif (decide (r17 < (0 : Int))) then (some ((false, ()), ())) else (bif (r17 != r11) then (some ((false, ()), ())) else (some ((true, ()), ())))) | none => none))) | none => none) | none => none) | none => none))) | none => none) | none => none))) | none => none)) | none => none)) | none => none))) | none => none) | none => none) | none => none) | none => none) | none => none)) | none => none
noncomputable def laws_FnExactNewConsole_x : Cx := ⟨tab, laws_heldConsole_e, fun f n => bif Nat.beq f 16 && Nat.beq n 0 then 1 else bif Nat.beq f 17 && Nat.beq n 0 then 1 else 0, fun _ => false, [(16, 0), (16, 1), (16, 2), (16, 3), (21, 0), (21, 1), (21, 2), (21, 3), (34, 0), (34, 1), (34, 2), (34, 3), (43, 0), (43, 1), (43, 2), (43, 3), (44, 0), (44, 1), (44, 2), (44, 3), (48, 0), (48, 1), (48, 2), (48, 3), (54, 0), (54, 1), (54, 2), (54, 3), (64, 0), (64, 1), (64, 2), (64, 3), (67, 0), (67, 1), (67, 2), (67, 3), (75, 0), (75, 1), (75, 2), (75, 3), (81, 0), (81, 1), (81, 2), (81, 3), (90, 0), (90, 1), (90, 2), (90, 3)], [(1, 0), (4, 0), (12, 0)]⟩
noncomputable def c3 : Code := bodyOf Tryz.f3
noncomputable def laws_FnExactNewConsole_A : Ann := .seq .nil (.seq .nil (.seq .nil (.seq .nil (.seq .nil (.seq .nil (.seq .nil (.seq .nil (.seq (.seq (.draws [(1, .flo)] laws_FnExactNewConsole_J0 laws_FnExactNewConsole_T0) .nil) .nil))))))))
theorem laws_FnExactNewConsole_D0b0 (p : laws_FnExactNewConsole_J1.P) : runDrawn laws_FnExactNewConsole_x (opsOf (subc [1, 1, 1, 1, 1, 1, 1, 1, 0, 0] c3)) [(0, .sole), (2, .sole), (3, .sole), (4, .flo)] (laws_FnExactNewConsole_J1.S p) (endT laws_FnExactNewConsole_x (.fin : DT laws_FnExactNewConsole_J0)) = laws_FnExactNewConsole_D0 p := by kernel_rfl
theorem laws_FnExactNewConsole_D0b1 (p : laws_FnExactNewConsole_J1.P) : runDrawn laws_FnExactNewConsole_x (opsOf (subc [1, 1, 1, 1, 1, 1, 1, 1, 0, 0] c3)) [(2, .sole), (0, .qui), (3, .sole), (4, .flo)] (laws_FnExactNewConsole_J1.S p) (endT laws_FnExactNewConsole_x (.fin : DT laws_FnExactNewConsole_J0)) = laws_FnExactNewConsole_D0 p := by kernel_rfl
noncomputable def laws_FnExactNewConsole_D : Ve.Fn := ⟨3, laws_FnExactNewConsole_a, laws_FnExactNewConsole_o, laws_FnExactNewConsole_E, laws_FnExactNewConsole⟩
theorem laws_FnExactNewConsole_w : Walk Tryz.prog laws_FnExactNewConsole_x laws_FnExactNewConsole_D Tryz.f3 c3 96 laws_FnExactNewConsole_A :=
  ⟨⟨Tryz.func3, by kernel_rfl, by kernel_rfl, by kernel_rfl, by decide, by kernel_rfl, Nat.le_of_ble_eq_true (by kernel_rfl)⟩, by kernel_rfl, by kernel_rfl, by kernel_rfl, kcast (by kernel_rfl) (⟨laws_FnExactNewConsole_D0b0, laws_FnExactNewConsole_D0b1, trivial⟩ : (∀ p, runDrawn laws_FnExactNewConsole_x (opsOf (subc [1, 1, 1, 1, 1, 1, 1, 1, 0, 0] c3)) [(0, .sole), (2, .sole), (3, .sole), (4, .flo)] (laws_FnExactNewConsole_J1.S p) (endT laws_FnExactNewConsole_x (.fin : DT laws_FnExactNewConsole_J0)) = laws_FnExactNewConsole_D0 p) ∧ (∀ p, runDrawn laws_FnExactNewConsole_x (opsOf (subc [1, 1, 1, 1, 1, 1, 1, 1, 0, 0] c3)) [(2, .sole), (0, .qui), (3, .sole), (4, .flo)] (laws_FnExactNewConsole_J1.S p) (endT laws_FnExactNewConsole_x (.fin : DT laws_FnExactNewConsole_J0)) = laws_FnExactNewConsole_D0 p) ∧ True), by kernel_rfl, fun x y => by kernel_rfl⟩
theorem laws_FnExactNewConsole_s : laws_FnExactNewConsole_D.Says Tryz.prog := laws_FnExactNewConsole_w.says follows tabOk laws_heldConsole_e_ok
noncomputable def laws_FnExactNewConsole_e : Env := more laws_heldConsole_e laws_FnExactNewConsole_D
theorem laws_FnExactNewConsole_e_ok : EnvOk Tryz.prog laws_FnExactNewConsole_e := more_ok laws_heldConsole_e_ok laws_FnExactNewConsole_s
end Go.Proofs.YtckbihhaameffaaGreat.V
