import Derived.Test.YtklolnaonampeaaShelf
import Derived.WalkKit
import Derived.WalkLawsBesides
import Derived.WalkSpells
namespace Go.Proofs.Ytklolnaonampeaa
open Go.RowKit Go.Lib

theorem indexByte_self (c : UInt8) (s : ByteArray) (h : ([c] == s.toList) = true) : Lib.indexByte s.data.toList c = 0 := by
  have e : s.data.toList = [c] := by
    have := (beq_iff_eq.1 h).symm
    simpa [ByteArray.toList_eq] using this
  rw [e]; simp [Lib.indexByte]

theorem stringslite_Index_one (s : ByteArray) (c : UInt8) (w : World) :
    Calls Try.prog 15 #[.string s, .string ⟨#[c]⟩] w fun e w' => e = .returned (.int .i64 (Lib.indexByte s.data.toList c)) ∧ w = w' := by
  have h0 := indexByte_self c s
  by_cases hs : ([c] == s.toList) = true
  · rw [h0 hs]
    clear h0
    go_enter Try.func15, Try.ntmps15
    go_wp2
    go_ret
    exact ⟨rfl, rfl⟩
  · have hs' : ([c] == s.toList) = false := by simpa using hs
    clear hs h0
    go_enter Try.func15, Try.ntmps15
    go_wp2_with (go_at_call 16; refine (Try.stringslite_IndexByte _ _ _).mono ?_; rintro e w' ⟨rfl, rfl⟩)
    go_ret
    exact ⟨rfl, rfl⟩

theorem strings_Index_one (s : ByteArray) (c : UInt8) (w : World) :
    Calls Try.prog 13 #[.string s, .string ⟨#[c]⟩] w fun e w' => e = .returned (.int .i64 (Lib.indexByte s.data.toList c)) ∧ w = w' := by
  go_enter Try.func13, Try.ntmps13
  go_wp2_with (go_at_call 15; refine (stringslite_Index_one _ _ _).mono ?_; rintro e w' ⟨rfl, rfl⟩)
  go_ret
  exact ⟨rfl, rfl⟩

theorem strings_Contains_one (s : ByteArray) (c : UInt8) (w : World) :
    Calls Try.prog 10 #[.string s, .string ⟨#[c]⟩] w fun e w' => e = .returned (.bool (decide (0 ≤ Lib.indexByte s.data.toList c))) ∧ w = w' := by
  go_enter Try.func10, Try.ntmps10
  go_wp2_with (first | (go_at_call 13; refine (strings_Index_one _ _ _).mono ?_; rintro e w' ⟨rfl, rfl⟩))
  go_ret
  exact ⟨rfl, rfl⟩
end Go.Proofs.Ytklolnaonampeaa
