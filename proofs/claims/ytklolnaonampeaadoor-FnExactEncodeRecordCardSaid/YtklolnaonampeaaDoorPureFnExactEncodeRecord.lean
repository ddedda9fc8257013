import Derived.Test.YtklolnaonampeaaDoorPFnExactEncodeRecordx
import Derived.Test.YtklolnaonampeaaDoorPlain
import Derived.Lib.ItoaLen
import Derived.Lib.ItoaNum
import Derived.Lib.ItoaMem
import Derived.Lib.IndexLaws
/-! What the reference and the program compute agrees: plain lemmas, by rounds. -/
namespace Go.Proofs.YtklolnaonampeaaDoor.Pure
open Go.RowKit Go.Lib Go.Proofs.YtklolnaonampeaaDoor.Plain Go.Proofs.YtklolnaonampeaaDoor.PFnExactEncodeRecord Go.Proofs.YtklolnaonampeaaDoorW.PrintWords Go.Proofs.YtklolnaonampeaaDoorW.PrintLast Go.Proofs.YtklolnaonampeaaDoorW.PrintMore
open Classical
set_option linter.unusedVariables false
set_option linter.unusedSimpArgs false
/-! ### plain texts and records -/
def PlainAt (s : ByteArray) (i : Nat) : Prop := 32 ≤ bt s i ∧ bt s i ≤ 126 ∧ bt s i ≠ 35
def PlainOk (s : ByteArray) (m : Int) : Prop := (∀ i, i < s.size → PlainAt s i) ∧ (s.size : Int) ≤ m
theorem in_iff (a b c : Int) : spec_l1In.f a b c = some (decide (b ≤ a ∧ a ≤ c)) := by
  unfold spec_l1In.f
  by_cases h : a ≥ b
  · rw [if_pos h]; congr 1; exact decide_eq_decide.2 ⟨fun x => ⟨h, x⟩, fun x => x.2⟩
  · rw [if_neg h]; congr 1; exact (decide_eq_false fun x => h x.1).symm
theorem between_iff (a b c : Int) : impl_between.f a b c = some (decide (b ≤ a ∧ a ≤ c)) := by
  unfold impl_between.f
  by_cases h : a ≥ b
  · rw [if_pos h]; congr 1; exact decide_eq_decide.2 ⟨fun x => ⟨h, x⟩, fun x => x.2⟩
  · rw [if_neg h]; congr 1; exact (decide_eq_false fun x => h x.1).symm
theorem wrap_bt (s : ByteArray) (i : Int) : wrap64 (bt s i) = bt s i := by have := bt_range s i; exact wrap_of (by omega) (by omega)

theorem specBytes_ev (s : ByteArray) (m : Int) (hs : s.size ≤ 1048576) : Ev (fun k => spec_l12Bytes.f k s m) (decide (PlainOk s m)) := by
  unfold spec_l12Bytes.f
  refine Ev.check (F := fun k i => spec_l12Bytes.l0 k s m i) (n := s.size) (PlainAt s) (X := (s.size : Int) ≤ m) (Y := PlainOk s m) Iff.rfl ?_ ?_ ?_
  · refine Ev.step (fun k => by rw [spec_l12Bytes.l0]) ?_
    simp only [if_neg (show ¬ ((s.size : Int) < s.size) by omega)]
    exact Ev.now _
  · intro i hi g r ih
    obtain ⟨g1, g2, g3⟩ := g
    refine Ev.step (fun k => by rw [spec_l12Bytes.l0]) ?_
    simp only [if_pos (show (i : Int) < s.size by omega), if_pos (show (0 : Int) ≤ i by omega), wrap_bt, in_iff, Option.bind_some, decide_eq_true_eq, if_pos (show 32 ≤ bt s i ∧ bt s i ≤ 126 from ⟨g1, g2⟩), if_neg g3, wrap_succ hi (show s.size ≤ 140737488351232 by omega)]
    exact ih
  · intro i hi g
    refine Ev.step (fun k => by rw [spec_l12Bytes.l0]) ?_
    simp only [if_pos (show (i : Int) < s.size by omega), if_pos (show (0 : Int) ≤ i by omega), wrap_bt, in_iff, Option.bind_some, decide_eq_true_eq]
    by_cases a : 32 ≤ bt s i ∧ bt s i ≤ 126
    · have b : bt s i = 35 := Classical.byContradiction fun b => g ⟨a.1, a.2, b⟩
      simp only [if_pos a, if_pos b]; exact Ev.now _
    · simp only [if_neg a]; exact Ev.now _
theorem implPlain_ev (s : ByteArray) (m : Int) (hs : s.size ≤ 1048576) : Ev (fun k => impl_isPlain.f k s m) (decide (PlainOk s m)) := by
  unfold impl_isPlain.f
  refine Ev.check (F := fun k i => impl_isPlain.l0 k s m s.size i) (n := s.size) (PlainAt s) (X := (s.size : Int) ≤ m) (Y := PlainOk s m) Iff.rfl ?_ ?_ ?_
  · refine Ev.step (fun k => by rw [impl_isPlain.l0]) ?_
    simp only [if_neg (show ¬ ((s.size : Int) < s.size) by omega)]
    exact Ev.now _
  · intro i hi g r ih
    obtain ⟨g1, g2, g3⟩ := g
    refine Ev.step (fun k => by rw [impl_isPlain.l0]) ?_
    simp only [if_pos (show (i : Int) < s.size by omega), if_pos (show (0 : Int) ≤ i by omega), if_neg (show ¬ (bt s i < 32) by omega), if_neg (show ¬ (bt s i > 126) by omega), if_neg g3, wrap_succ hi (show s.size ≤ 140737488351232 by omega)]
    exact ih
  · intro i hi g
    refine Ev.step (fun k => by rw [impl_isPlain.l0]) ?_
    simp only [if_pos (show (i : Int) < s.size by omega), if_pos (show (0 : Int) ≤ i by omega)]
    by_cases a : bt s i < 32
    · simp only [if_pos a]; exact Ev.now _
    · by_cases b : bt s i > 126
      · simp only [if_neg a, if_pos b]; exact Ev.now _
      · have c : bt s i = 35 := Classical.byContradiction fun c => g ⟨by omega, by omega, c⟩
        simp only [if_neg a, if_neg b, if_pos c]; exact Ev.now _

/-- A byte stands in a text. -/
def Has (s : ByteArray) (c : UInt8) : Prop := c ∈ s.data.toList
theorem bt_get (s : ByteArray) (i : Nat) (h : i < s.data.toList.length) : bt s i = (s.data.toList[i].toNat : Int) := by
  have h' : i < s.size := by simpa using h
  have := bt_at s (i : Int) (by simpa using h')
  rw [← this]; rfl
theorem has_iff (s : ByteArray) (c : UInt8) : Has s c ↔ ¬ ∀ i, i < s.size → ¬ bt s i = (c.toNat : Int) := by
  unfold Has
  constructor
  · intro h a
    obtain ⟨i, hi, e⟩ := List.getElem_of_mem h
    exact a i (by simpa using hi) (by rw [bt_get s i hi, e])
  · intro h
    refine Classical.byContradiction fun g => h fun i hi e => g ?_
    have hl : i < s.data.toList.length := by simpa using hi
    rw [bt_get s i hl] at e
    have : s.data.toList[i] = c := UInt8.toNat_inj.1 (by omega)
    exact this ▸ List.getElem_mem hl
theorem stands_ev (s : ByteArray) (c : UInt8) (hs : s.size ≤ 1048576) : Ev (fun k => spec_l1Stands.f k s c.toNat) (decide (Has s c)) := by
  unfold spec_l1Stands.f
  have hl := Ev.loop (F := fun k i => spec_l1Stands.l0 k s c.toNat i) (n := s.size) (good := fun i => ¬ bt s i = (c.toNat : Int)) (· = false) (· = true) ?_ ?_ ?_
  · obtain ⟨r, h, h1, h2⟩ := hl
    have e : r = decide (Has s c) := by
      by_cases a : ∀ i, i < s.size → ¬ bt s i = (c.toNat : Int)
      · rw [h1 a]; exact (decide_eq_false fun z => (has_iff s c).1 z a).symm
      · rw [h2 a]; exact (decide_eq_true ((has_iff s c).2 a)).symm
    rw [← e]; exact h
  · refine ⟨false, Ev.step (fun k => by rw [spec_l1Stands.l0]) ?_, rfl⟩
    simp only [if_neg (show ¬ ((s.size : Int) < s.size) by omega)]
    exact Ev.now _
  · intro i hi g r ih
    refine Ev.step (fun k => by rw [spec_l1Stands.l0]) ?_
    simp only [if_pos (show (i : Int) < s.size by omega), if_pos (show (0 : Int) ≤ i by omega), if_neg g, wrap_succ hi (show s.size ≤ 140737488351232 by omega)]
    exact ih
  · intro i hi g
    refine ⟨true, Ev.step (fun k => by rw [spec_l1Stands.l0]) ?_, rfl⟩
    simp only [if_pos (show (i : Int) < s.size by omega), if_pos (show (0 : Int) ≤ i by omega), if_pos (Classical.not_not.1 g)]
    exact Ev.now _
theorem indexByte_mem (l : List UInt8) (c : UInt8) : (0 ≤ Lib.indexByte l c) ↔ c ∈ l := by
  induction l with
  | nil => simp [Lib.indexByte]
  | cons b l ih =>
    unfold Lib.indexByte
    have hg := Lib.indexByte_ge l c
    by_cases h : b = c
    · subst h; simp
    · have h1 : (b == c) = false := by simpa using h
      rw [h1]; simp only [Bool.false_eq_true, if_false]
      by_cases e : Lib.indexByte l c = -1
      · have : ¬ c ∈ l := fun hm => by have := ih.2 hm; omega
        simp [e, this, Ne.symm h]
      · have : c ∈ l := ih.1 (by omega)
        simp only [beq_iff_eq, e, if_false, List.mem_cons, this, or_true, iff_true]; omega
theorem index_one (s : ByteArray) (c : UInt8) : stringslite_Index.f s ⟨#[c]⟩ = some (Lib.indexByte s.data.toList c) := by
  unfold stringslite_Index.f; rw [if_pos (show (⟨#[c]⟩ : ByteArray).data.size = 1 from rfl)]; rfl
theorem contains_iff (s : ByteArray) (c : UInt8) : strings_Contains.f s ⟨#[c]⟩ = some (decide (Has s c)) := by
  unfold strings_Contains.f strings_Index.f
  simp only [index_one, Option.bind_some]
  congr 1
  exact decide_eq_decide.2 (indexByte_mem _ _)

def RecordOk (c r : ByteArray) : Prop := ¬ c.toList = [] ∧ PlainOk c 160 ∧ PlainOk r 200 ∧ ¬ Has c 64
theorem specRecord_ev (c r : ByteArray) (hc : c.size ≤ 1048576) (hr : r.size ≤ 1048576) : Ev (fun k => spec_l12Record.f k c r) (decide (RecordOk c r)) := by
  unfold spec_l12Record.f
  by_cases g : c.toList = []
  · simp only [if_pos g]
    rw [decide_eq_false fun x : RecordOk c r => x.1 g]; exact Ev.now _
  · simp only [if_neg g]
    refine Ev.bind (specBytes_ev c 160 hc) ?_
    by_cases g1 : PlainOk c 160
    · simp only [decide_eq_true g1, if_true]
      refine Ev.bind (stands_ev c 64 hc) ?_
      by_cases g2 : Has c 64
      · simp only [decide_eq_true g2, if_true]
        rw [decide_eq_false fun x : RecordOk c r => x.2.2.2 g2]; exact Ev.now _
      · simp only [decide_eq_false g2, Bool.false_eq_true, if_false]
        have e : decide (RecordOk c r) = decide (PlainOk r 200) := decide_eq_decide.2 ⟨fun x => x.2.2.1, fun x => ⟨g, g1, x, g2⟩⟩
        rw [e]
        exact Ev.bind (specBytes_ev r 200 hr) (Ev.now _)
    · simp only [decide_eq_false g1, Bool.false_eq_true, if_false]
      rw [decide_eq_false fun x : RecordOk c r => g1 x.2.1]; exact Ev.now _
theorem implRecord_ev (c r : ByteArray) (hc : c.size ≤ 1048576) (hr : r.size ≤ 1048576) : Ev (fun k => impl_IsValidRecord.f k c r) (decide (RecordOk c r)) := by
  unfold impl_IsValidRecord.f
  by_cases g : c.toList = []
  · simp only [if_pos g]
    rw [decide_eq_false fun x : RecordOk c r => x.1 g]; exact Ev.now _
  · simp only [if_neg g]
    refine Ev.bind (implPlain_ev c 160 hc) ?_
    by_cases g1 : PlainOk c 160
    · simp only [decide_eq_true g1, if_true]
      refine Ev.bind (implPlain_ev r 200 hr) ?_
      by_cases g2 : PlainOk r 200
      · simp only [decide_eq_true g2, if_true, contains_iff, Option.bind_some]
        have e : decide (RecordOk c r) = !decide (Has c 64) := by
          rw [← decide_not]; exact decide_eq_decide.2 ⟨fun x => x.2.2.2, fun x => ⟨g, g1, g2, x⟩⟩
        rw [e]; exact Ev.now _
      · simp only [decide_eq_false g2, Bool.false_eq_true, if_false]
        rw [decide_eq_false fun x : RecordOk c r => g2 x.2.2.1]; exact Ev.now _
    · simp only [decide_eq_false g1, Bool.false_eq_true, if_false]
      rw [decide_eq_false fun x : RecordOk c r => g1 x.2.1]; exact Ev.now _
/-! ### numbers, sums, seals -/
theorem digit_cut (d : Nat) (h : d < 10) : (⟨#[48, 49, 50, 51, 52, 53, 54, 55, 56, 57]⟩ : ByteArray).extract d (d + 1) = ⟨#[UInt8.ofNat (48 + d)]⟩ := by
  have : d = 0 ∨ d = 1 ∨ d = 2 ∨ d = 3 ∨ d = 4 ∨ d = 5 ∨ d = 6 ∨ d = 7 ∨ d = 8 ∨ d = 9 := by omega
  rcases this with rfl | rfl | rfl | rfl | rfl | rfl | rfl | rfl | rfl | rfl <;> rfl
theorem numEx (n : Nat) : ∃ t : ByteArray, t = ⟨(Lib.decDigits n).toArray⟩ := ⟨_, rfl⟩
noncomputable def numOf (n : Nat) : ByteArray := Classical.choose (numEx n)
theorem numOf_eq (n : Nat) : numOf n = ⟨(Lib.decDigits n).toArray⟩ := Classical.choose_spec (numEx n)
theorem numOf_small {n : Nat} (h : n < 10) : numOf n = ⟨#[UInt8.ofNat (48 + n)]⟩ := by rw [numOf_eq, Lib.decDigits_one h]
theorem numOf_step {n : Nat} (h : ¬ n < 10) : numOf n = numOf (n / 10) ++ ⟨#[UInt8.ofNat (48 + n % 10)]⟩ := by
  rw [numOf_eq, numOf_eq]
  rw [Lib.decDigits, dif_neg h]
  apply ByteArray.ext
  rw [ByteArray.data_append]
  simp
theorem numOf_size (n : Nat) (h : n ≤ 1048576) : (numOf n).size ≤ 21 := by
  have := Lib.itoa_length_le (n : Int) (by omega) (by omega)
  rw [Lib.itoa_nonneg] at this
  rw [numOf_eq]
  simpa [ByteArray.size] using this
theorem num_ev (n : Nat) (hn : n ≤ 1048576) : Ev (fun k => spec_l1Num.f k n) (numOf n) := by
  induction n using Nat.strongRecOn with
  | _ n ih =>
    refine Ev.step (fun k => by rw [spec_l1Num.f]) ?_
    have w1 : wrap64 ((n : Int) + 1) = ((n + 1 : Nat) : Int) := by rw [wrap_of (by omega) (by omega)]; rfl
    by_cases g : n < 10
    · simp only [if_neg (show ¬ ((n : Int) < 0) by omega), if_pos (show (n : Int) < 10 by omega), if_pos (show (0 : Int) ≤ n by omega), w1, if_pos (show (n : Int) ≤ ((n + 1 : Nat) : Int) by omega), if_pos (show ((n + 1 : Nat) : Int) ≤ 10 by omega), Int.toNat_natCast, digit_cut n g, ← numOf_small g]
      exact Ev.now _
    · have hd : n % 10 < 10 := by omega
      have t1 : wrap64 (Int.tdiv n 10) = ((n / 10 : Nat) : Int) := by rw [show Int.tdiv (n : Int) 10 = ((n / 10 : Nat) : Int) from rfl, wrap_of (by omega) (by omega)]
      have t2 : Int.tmod n 10 = ((n % 10 : Nat) : Int) := rfl
      have t3 : wrap64 (((n % 10 : Nat) : Int) + 1) = ((n % 10 + 1 : Nat) : Int) := by rw [wrap_of (by omega) (by omega)]; rfl
      have hs := numOf_size (n / 10) (by omega)
      simp only [if_neg (show ¬ ((n : Int) < 0) by omega), if_neg (show ¬ ((n : Int) < 10) by omega), t1, t2, t3]
      refine Ev.bind (ih (n / 10) (by omega) (by omega)) ?_
      simp only [if_pos (show (0 : Int) ≤ ((n % 10 : Nat) : Int) by omega), if_pos (show ((n % 10 : Nat) : Int) ≤ ((n % 10 + 1 : Nat) : Int) by omega), if_pos (show ((n % 10 + 1 : Nat) : Int) ≤ 10 by omega), Int.toNat_natCast, digit_cut _ hd]
      rw [if_pos (show (numOf (n / 10)).size + (n % 10 + 1 - n % 10) ≤ 9223372036854775807 by omega), ← numOf_step g]
      exact Ev.now _
theorem itoa_num (n : Nat) (hn : n ≤ 1048576) : strconv_Itoa.f n = some (numOf n) := by
  unfold strconv_Itoa.f
  rw [if_pos ⟨by omega, by omega⟩, Lib.itoa_nonneg, numOf_eq]
theorem num_digits (n : Nat) : ∀ b ∈ Lib.decDigits n, 48 ≤ b.toNat ∧ b.toNat ≤ 57 := by
  induction n using Nat.strongRecOn with
  | _ n ih =>
    intro b hb
    have dig : ∀ d : Nat, d < 10 → 48 ≤ (UInt8.ofNat (48 + d)).toNat ∧ (UInt8.ofNat (48 + d)).toNat ≤ 57 := by
      intro d hd
      rw [UInt8.toNat_ofNat']
      omega
    by_cases g : n < 10
    · rw [Lib.decDigits_one g] at hb
      rw [List.mem_singleton.1 hb]
      exact dig n g
    · rw [Lib.decDigits, dif_neg g] at hb
      rcases List.mem_append.1 hb with hb | hb
      · exact ih (n / 10) (by omega) b hb
      · rw [List.mem_singleton.1 hb]
        exact dig _ (by omega)
/-! ### sums, seals, lines -/
def stepOf (h b : Int) : Int := Int.tmod (wrap64 ((wrap64 ((wrap64 (41 * h)) + b)) + 1)) 999979
theorem stepOf_range {h b : Int} (h0 : 0 ≤ h) (h1 : h < 999979) (b0 : 0 ≤ b) (b1 : b ≤ 255) : 0 ≤ stepOf h b ∧ stepOf h b < 999979 := by
  unfold stepOf
  rw [wrap_of (x := 41 * h) (by omega) (by omega), wrap_of (x := 41 * h + b) (by omega) (by omega), wrap_of (by omega) (by omega)]
  exact ⟨Int.tmod_nonneg _ (by omega), Int.tmod_lt_of_pos _ (by decide)⟩
theorem sum_same (s : ByteArray) (hs : s.size ≤ 1048576) : ∃ v : Nat, v < 999979 ∧ Ev (fun k => spec_l1Sum.f k s) (v : Int) ∧ Ev (fun k => impl_checksum.f k s) (v : Int) := by
  have main : ∀ d i : Nat, i ≤ s.size → s.size - i = d → ∀ h : Int, 0 ≤ h → h < 999979 → ∃ v : Nat, v < 999979 ∧ Ev (fun k => spec_l1Sum.l0 k s h i) (v : Int) ∧ Ev (fun k => impl_checksum.l0 k s h s.size i) (v : Int) := by
    intro d
    induction d with
    | zero =>
      intro i hi hd h h0 h1
      obtain rfl : i = s.size := by omega
      obtain ⟨v, rfl⟩ := Int.eq_ofNat_of_zero_le h0
      refine ⟨v, by omega, Ev.step (fun k => by rw [spec_l1Sum.l0]) ?_, Ev.step (fun k => by rw [impl_checksum.l0]) ?_⟩ <;>
      · simp only [if_neg (show ¬ ((s.size : Int) < s.size) by omega)]
        exact Ev.now _
    | succ d ih =>
      intro i hi hd h h0 h1
      have hi' : i < s.size := by omega
      have hb := bt_range s i
      obtain ⟨r0, r1⟩ := stepOf_range h0 h1 hb.1 hb.2
      obtain ⟨v, hv, q1, q2⟩ := ih (i + 1) (by omega) (by omega) (stepOf h (bt s i)) r0 r1
      refine ⟨v, hv, Ev.step (fun k => by rw [spec_l1Sum.l0]) ?_, Ev.step (fun k => by rw [impl_checksum.l0]) ?_⟩
      · simp only [if_pos (show (i : Int) < s.size by omega), if_pos (show (0 : Int) ≤ i by omega), wrap_bt, wrap_succ hi' (show s.size ≤ 140737488351232 by omega)]
        exact q1
      · simp only [if_pos (show (i : Int) < s.size by omega), if_pos (show (0 : Int) ≤ i by omega), wrap_bt, wrap_succ hi' (show s.size ≤ 140737488351232 by omega)]
        exact q2
  unfold spec_l1Sum.f impl_checksum.f
  exact main s.size 0 (by omega) (by omega) 7 (by decide) (by decide)
noncomputable def sumOf (s : ByteArray) : Nat := if h : s.size ≤ 1048576 then Classical.choose (sum_same s h) else 0
theorem sumOf_lt (s : ByteArray) (hs : s.size ≤ 1048576) : sumOf s < 999979 := by unfold sumOf; rw [dif_pos hs]; exact (Classical.choose_spec (sum_same s hs)).1
theorem specSum_ev (s : ByteArray) (hs : s.size ≤ 1048576) : Ev (fun k => spec_l1Sum.f k s) (sumOf s : Int) := by unfold sumOf; rw [dif_pos hs]; exact (Classical.choose_spec (sum_same s hs)).2.1
theorem implSum_ev (s : ByteArray) (hs : s.size ≤ 1048576) : Ev (fun k => impl_checksum.f k s) (sumOf s : Int) := by unfold sumOf; rw [dif_pos hs]; exact (Classical.choose_spec (sum_same s hs)).2.2
theorem sealEx (s : ByteArray) : ∃ t : ByteArray, t = (s ++ (⟨#[35]⟩ : ByteArray)) ++ numOf (sumOf s) := ⟨_, rfl⟩
noncomputable def sealOf (s : ByteArray) : ByteArray := Classical.choose (sealEx s)
theorem sealOf_eq (s : ByteArray) : sealOf s = (s ++ (⟨#[35]⟩ : ByteArray)) ++ numOf (sumOf s) := Classical.choose_spec (sealEx s)
theorem specSeal_ev (s : ByteArray) (hs : s.size ≤ 1048576) : Ev (fun k => spec_l1Seal.f k s) (sealOf s) := by
  unfold spec_l1Seal.f
  rw [sealOf_eq]
  have h1 := sumOf_lt s hs
  have h2 := numOf_size (sumOf s) (by omega)
  simp only [if_pos (show s.size + 1 ≤ 9223372036854775807 by omega)]
  refine Ev.bind (specSum_ev s hs) (Ev.bind (num_ev (sumOf s) (by omega)) ?_)
  simp only [if_pos (show s.size + 1 + (numOf (sumOf s)).size ≤ 9223372036854775807 by omega)]
  exact Ev.now _
/-! ### pieces of texts -/
theorem wrap_add {a b : Nat} (h : a + b ≤ 140737488351232) : wrap64 ((a : Int) + (b : Int)) = ((a + b : Nat) : Int) := by rw [wrap_of (by omega) (by omega)]; rfl
theorem wrap_one {a : Nat} (h : a ≤ 140737488351232) : wrap64 ((a : Int) + 1) = ((a + 1 : Nat) : Int) := by rw [wrap_of (by omega) (by omega)]; rfl
abbrev L (s : ByteArray) : List UInt8 := s.data.toList
theorem L_append (a b : ByteArray) : L (a ++ b) = L a ++ L b := by unfold L; rw [ByteArray.data_append, Array.toList_append]
theorem L_size (s : ByteArray) : s.size = (L s).length := by unfold L; rw [Array.length_toList]; rfl
theorem L_extract (s : ByteArray) (a b : Nat) : L (s.extract a b) = ((L s).drop a).take (b - a) := by
  unfold L
  rw [ByteArray.data_extract, Array.toList_extract, List.extract_eq_take_drop]
theorem L_inj {a b : ByteArray} (h : L a = L b) : a = b := ByteArray.ext (Array.toList_inj.1 h)
theorem L_one (c : UInt8) : L (⟨#[c]⟩ : ByteArray) = [c] := rfl
theorem L_nil : L (⟨#[]⟩ : ByteArray) = [] := rfl
theorem L_toList (s : ByteArray) : s.toList = L s := ByteArray.toList_eq s
theorem L_head (s : ByteArray) (i : Nat) : L (s.extract 0 i) = (L s).take i := by rw [L_extract]; simp
theorem L_tail (s : ByteArray) (i : Nat) : L (s.extract i s.size) = (L s).drop i := by
  rw [L_extract, List.take_of_length_le]
  rw [List.length_drop, L_size]; omega
def upTo (c : UInt8) (l : List UInt8) : List UInt8 := l.takeWhile (· != c)
theorem upTo_none {c : UInt8} {l : List UInt8} (h : c ∉ l) : upTo c l = l := by
  unfold upTo
  induction l with
  | nil => rfl
  | cons a l ih =>
    have h1 : (a != c) = true := by simp only [bne_iff_ne]; exact fun e => h (e ▸ List.mem_cons_self ..)
    rw [List.takeWhile_cons, h1, if_pos rfl, ih fun x => h (List.mem_cons_of_mem _ x)]
theorem upTo_join {c : UInt8} {a b : List UInt8} (h : c ∉ a) : upTo c (a ++ c :: b) = a := by
  unfold upTo
  induction a with
  | nil => simp
  | cons x a ih =>
    have h1 : (x != c) = true := by simp only [bne_iff_ne]; exact fun e => h (e ▸ List.mem_cons_self ..)
    rw [List.cons_append, List.takeWhile_cons, h1, if_pos rfl, ih fun x => h (List.mem_cons_of_mem _ x)]
theorem upTo_free (c : UInt8) (l : List UInt8) : c ∉ upTo c l := by
  unfold upTo
  induction l with
  | nil => simp
  | cons a l ih =>
    rw [List.takeWhile_cons]
    by_cases e : a = c
    · subst e; simp
    · have h1 : (a != c) = true := by simpa using e
      rw [h1, if_pos rfl]
      intro h
      rcases List.mem_cons.1 h with h | h
      · exact e h.symm
      · exact ih h
theorem upTo_split {c : UInt8} {l : List UInt8} (h : c ∈ l) : ∃ b, l = upTo c l ++ c :: b := by
  unfold upTo
  induction l with
  | nil => cases h
  | cons a l ih =>
    by_cases e : a = c
    · subst e; exact ⟨l, by simp⟩
    · have h1 : (a != c) = true := by simpa using e
      obtain ⟨b, hb⟩ := ih ((List.mem_cons.1 h).resolve_left (Ne.symm e))
      refine ⟨b, ?_⟩
      rw [List.takeWhile_cons, h1, if_pos rfl, List.cons_append, ← hb]
theorem upTo_le (c : UInt8) (l : List UInt8) : (upTo c l).length ≤ l.length := (List.takeWhile_sublist _).length_le
theorem upTo_lt {c : UInt8} {l : List UInt8} (h : c ∈ l) : (upTo c l).length < l.length := by
  obtain ⟨b, hb⟩ := upTo_split h
  have := congrArg List.length hb
  simp only [List.length_append, List.length_cons] at this
  omega
theorem indexByte_eq (l : List UInt8) (c : UInt8) : Lib.indexByte l c = if c ∈ l then ((upTo c l).length : Int) else -1 := by
  induction l with
  | nil => rfl
  | cons b l ih =>
    unfold Lib.indexByte
    by_cases h : b = c
    · subst h; simp [upTo]
    · have h1 : (b == c) = false := by simpa using h
      have h2 : (b != c) = true := by simpa using h
      rw [h1]; simp only [Bool.false_eq_true, if_false]
      have hu : upTo c (b :: l) = b :: upTo c l := by unfold upTo; rw [List.takeWhile_cons, h2, if_pos rfl]
      rw [ih, hu]
      by_cases e : c ∈ l
      · rw [if_pos e, if_pos (List.mem_cons_of_mem _ e)]
        have : (((upTo c l).length : Int) == -1) = false := by simp
        rw [this]; simp
      · have hn : ¬ c ∈ b :: l := by
          intro x; rcases List.mem_cons.1 x with x | x
          · exact h x.symm
          · exact e x
        rw [if_neg e, if_neg hn]; rfl
theorem bt_L (s : ByteArray) (i : Nat) (h : i < s.size) : bt s i = ((L s)[i]'(by rw [← L_size]; exact h)).toNat := bt_get s i (by rw [← L_size]; exact h)
theorem bt_eq (s : ByteArray) (c : UInt8) (i : Nat) (h : i < s.size) : bt s i = (c.toNat : Int) ↔ (L s)[i]'(by rw [← L_size]; exact h) = c := by
  rw [bt_L s i h]
  constructor
  · intro e; exact UInt8.toNat_inj.1 (by omega)
  · intro e; rw [e]
/-! ### lines -/
theorem plain_byte {s : ByteArray} {m : Int} (h : PlainOk s m) {b : UInt8} (hb : b ∈ L s) : 32 ≤ b.toNat ∧ b.toNat ≤ 126 ∧ b.toNat ≠ 35 := by
  obtain ⟨i, hi, e⟩ := List.getElem_of_mem hb
  have hi' : i < s.size := by rw [L_size]; exact hi
  have := h.1 i hi'
  unfold PlainAt at this
  rw [bt_L s i hi', e] at this
  omega
theorem plain_free {s : ByteArray} {m : Int} (h : PlainOk s m) : (35 : UInt8) ∉ L s ∧ (10 : UInt8) ∉ L s := by
  constructor <;> intro hb <;> have := plain_byte h hb
  · exact this.2.2 rfl
  · have h10 : (10 : UInt8).toNat = 10 := rfl
    omega
theorem L_num (n : Nat) : L (numOf n) = Lib.decDigits n := by rw [numOf_eq]
theorem num_free (n : Nat) : (35 : UInt8) ∉ L (numOf n) ∧ (10 : UInt8) ∉ L (numOf n) ∧ (32 : UInt8) ∉ L (numOf n) := by
  rw [L_num]
  refine ⟨?_, ?_, ?_⟩ <;> intro hb <;> have := num_digits n _ hb
  · have e : (35 : UInt8).toNat = 35 := rfl
    omega
  · have e : (10 : UInt8).toNat = 10 := rfl
    omega
  · have e : (32 : UInt8).toNat = 32 := rfl
    omega
theorem bodyEx (k : Nat) (c r : ByteArray) : ∃ t : ByteArray, t = (((numOf k ++ (⟨#[32]⟩ : ByteArray)) ++ c) ++ (⟨#[64]⟩ : ByteArray)) ++ r := ⟨_, rfl⟩
noncomputable def bodyOf (k : Nat) (c r : ByteArray) : ByteArray := Classical.choose (bodyEx k c r)
theorem bodyOf_eq (k : Nat) (c r : ByteArray) : bodyOf k c r = (((numOf k ++ (⟨#[32]⟩ : ByteArray)) ++ c) ++ (⟨#[64]⟩ : ByteArray)) ++ r := Classical.choose_spec (bodyEx k c r)
theorem lineEx (k : Nat) (c r : ByteArray) : ∃ t : ByteArray, t = sealOf (bodyOf k c r) ++ (⟨#[10]⟩ : ByteArray) := ⟨_, rfl⟩
noncomputable def lineOf (k : Nat) (c r : ByteArray) : ByteArray := Classical.choose (lineEx k c r)
theorem lineOf_eq (k : Nat) (c r : ByteArray) : lineOf k c r = sealOf (bodyOf k c r) ++ (⟨#[10]⟩ : ByteArray) := Classical.choose_spec (lineEx k c r)
theorem L_body (k : Nat) (c r : ByteArray) : L (bodyOf k c r) = L (numOf k) ++ 32 :: (L c ++ 64 :: L r) := by
  rw [bodyOf_eq]
  simp only [L_append, L_one, List.append_assoc, List.singleton_append, List.cons_append, List.nil_append]
theorem L_seal (s : ByteArray) : L (sealOf s) = L s ++ 35 :: L (numOf (sumOf s)) := by
  rw [sealOf_eq]
  simp only [L_append, L_one, List.append_assoc, List.singleton_append, List.cons_append, List.nil_append]
theorem L_line (k : Nat) (c r : ByteArray) : L (lineOf k c r) = L (sealOf (bodyOf k c r)) ++ [10] := by
  rw [lineOf_eq]
  rw [L_append, L_one]
theorem body_free {k : Nat} {c r : ByteArray} (h : RecordOk c r) : (35 : UInt8) ∉ L (bodyOf k c r) ∧ (10 : UInt8) ∉ L (bodyOf k c r) := by
  have h1 := num_free k
  have h2 := plain_free h.2.1
  have h3 := plain_free h.2.2.1
  rw [L_body]
  constructor
  · intro hm
    rcases List.mem_append.1 hm with hm | hm
    · exact h1.1 hm
    · rcases List.mem_cons.1 hm with hm | hm
      · exact absurd hm (by decide)
      · rcases List.mem_append.1 hm with hm | hm
        · exact h2.1 hm
        · rcases List.mem_cons.1 hm with hm | hm
          · exact absurd hm (by decide)
          · exact h3.1 hm
  · intro hm
    rcases List.mem_append.1 hm with hm | hm
    · exact h1.2.1 hm
    · rcases List.mem_cons.1 hm with hm | hm
      · exact absurd hm (by decide)
      · rcases List.mem_append.1 hm with hm | hm
        · exact h2.2 hm
        · rcases List.mem_cons.1 hm with hm | hm
          · exact absurd hm (by decide)
          · exact h3.2 hm
theorem seal_free {k : Nat} {c r : ByteArray} (h : RecordOk c r) : (10 : UInt8) ∉ L (sealOf (bodyOf k c r)) := by
  rw [L_seal]
  intro hm
  rcases List.mem_append.1 hm with hm | hm
  · exact (body_free h).2 hm
  · rcases List.mem_cons.1 hm with hm | hm
    · exact absurd hm (by decide)
    · exact (num_free _).2.1 hm
theorem com_free {c r : ByteArray} (h : RecordOk c r) : (64 : UInt8) ∉ L c := h.2.2.2
theorem com_size {c r : ByteArray} (h : RecordOk c r) : c.size ≤ 160 ∧ r.size ≤ 200 := ⟨by have := h.2.1.2; omega, by have := h.2.2.1.2; omega⟩
theorem body_size {k : Nat} {c r : ByteArray} (hk : k ≤ 1048576) (h : RecordOk c r) : (bodyOf k c r).size ≤ 400 := by
  have h1 := numOf_size k hk
  have h2 := com_size h
  rw [L_size] at h1 h2 ⊢
  rw [L_size r] at h2
  rw [L_body]
  simp only [List.length_append, List.length_cons]
  omega
theorem seal_size (s : ByteArray) (hs : s.size ≤ 1048576) : (sealOf s).size ≤ s.size + 22 := by
  have h1 := numOf_size (sumOf s) (by have := sumOf_lt s hs; omega)
  rw [L_size] at h1
  rw [L_size, L_size s, L_seal]
  simp only [List.length_append, List.length_cons]
  omega
/-- What a line tells: the text ahead of the sum. -/
theorem of_line {s : ByteArray} {k : Nat} {c r : ByteArray} (h : RecordOk c r) (e : L s ++ [10] = L (lineOf k c r)) : L s = L (sealOf (bodyOf k c r)) ∧ upTo 35 (L s) = L (numOf k) ++ 32 :: (L c ++ 64 :: L r) := by
  rw [L_line] at e
  have e1 := List.append_cancel_right e
  refine ⟨e1, ?_⟩
  rw [e1, L_seal, upTo_join (body_free h).1, L_body]
theorem line_inj {k : Nat} {c r c' r' : ByteArray} (h : RecordOk c r) (h' : RecordOk c' r') (e : L (numOf k) ++ 32 :: (L c ++ 64 :: L r) = L (numOf k) ++ 32 :: (L c' ++ 64 :: L r')) : c = c' ∧ r = r' := by
  have e1 := (List.cons.inj (List.append_cancel_left e)).2
  have e2 := congrArg (upTo 64) e1
  rw [upTo_join (com_free h), upTo_join (com_free h')] at e2
  rw [e2] at e1
  exact ⟨L_inj e2, L_inj (List.cons.inj (List.append_cancel_left e1)).2⟩
theorem specLine_ev {k : Nat} {c r : ByteArray} (hk : k ≤ 1048576) (h : RecordOk c r) : Ev (fun j => spec_l12Line.f j k c r) (lineOf k c r) := by
  have h1 := numOf_size k hk
  have h2 := com_size h
  have h3 := body_size hk h
  have h4 := seal_size _ (show (bodyOf k c r).size ≤ 1048576 by omega)
  unfold spec_l12Line.f
  rw [lineOf_eq]
  refine Ev.bind (num_ev k hk) ?_
  simp only [if_pos (show (numOf k).size + 1 ≤ 9223372036854775807 by omega), if_pos (show (numOf k).size + 1 + c.size ≤ 9223372036854775807 by omega), if_pos (show (numOf k).size + 1 + c.size + 1 ≤ 9223372036854775807 by omega), if_pos (show (numOf k).size + 1 + c.size + 1 + r.size ≤ 9223372036854775807 by omega)]
  rw [← bodyOf_eq]
  refine Ev.bind (specSeal_ev (bodyOf k c r) (by omega)) ?_
  simp only [if_pos (show (sealOf (bodyOf k c r)).size + 1 ≤ 9223372036854775807 by omega)]
  exact Ev.now _
theorem append_ev (s : ByteArray) (hs : s.size ≤ 1048576) : ∃ a b, Ev (fun k => impl_AppendChecksum.f k s) (a, b) ∧ a.size ≤ 4000 ∧ (b = true → a = sealOf s) ∧ (s.size ≤ 3000 → (35 : UInt8) ∉ L s → b = true) := by
  have hj1 : Ev (fun k => impl_AppendChecksum.j0 k s true) ((⟨#[]⟩ : ByteArray), false) := by
    refine Ev.step (fun k => by rw [impl_AppendChecksum.j0]) ?_
    simp only [if_true]
    exact Ev.now _
  unfold impl_AppendChecksum.f
  by_cases g : (s.size : Int) > 4000
  · simp only [if_pos g]
    exact ⟨_, _, hj1, Nat.zero_le _, fun h => (by cases h), fun h => absurd h (by omega)⟩
  · simp only [if_neg g, contains_iff, Option.bind_some]
    by_cases g1 : Has s 35
    · simp only [decide_eq_true g1]
      exact ⟨_, _, hj1, Nat.zero_le _, fun h => (by cases h), fun _ h => absurd g1 h⟩
    · simp only [decide_eq_false g1]
      have h1 := sumOf_lt s hs
      have h2 := numOf_size (sumOf s) (by omega)
      by_cases g2 : ((s.size : Int) + 1 + ((numOf (sumOf s)).size : Int)) > 4000
      · refine ⟨⟨#[]⟩, false, Ev.step (fun k => by rw [impl_AppendChecksum.j0]) ?_, Nat.zero_le _, fun h => (by cases h), fun h => absurd h (by omega)⟩
        simp only [Bool.false_eq_true, if_false, if_pos (show s.size + 1 ≤ 9223372036854775807 by omega)]
        refine Ev.bind (implSum_ev s hs) ?_
        simp only [itoa_num (sumOf s) (by omega), Option.bind_some, if_pos (show s.size + 1 + (numOf (sumOf s)).size ≤ 9223372036854775807 by omega), if_pos g2]
        exact Ev.now _
      · refine ⟨sealOf s, true, Ev.step (fun k => by rw [impl_AppendChecksum.j0]) ?_, ?_, fun _ => rfl, fun _ _ => rfl⟩
        · simp only [Bool.false_eq_true, if_false, if_pos (show s.size + 1 ≤ 9223372036854775807 by omega)]
          refine Ev.bind (implSum_ev s hs) ?_
          simp only [itoa_num (sumOf s) (by omega), Option.bind_some, if_pos (show s.size + 1 + (numOf (sumOf s)).size ≤ 9223372036854775807 by omega), if_neg g2]
          rw [sealOf_eq]
          exact Ev.now _
        · rw [L_size, L_seal]
          rw [L_size, L_size] at g2
          simp only [List.length_append, List.length_cons]
          omega
theorem encode_ev (k : Int) (c r : ByteArray) (hc : c.size ≤ 1048576) (hr : r.size ≤ 1048576) :
    Ev (fun j => impl_EncodeRecord.f j k c r) (if 0 ≤ k ∧ k ≤ 59 ∧ RecordOk c r then (lineOf k.toNat c r, true) else ((⟨#[]⟩ : ByteArray), false)) := by
  have hj1 : Ev (fun j => impl_EncodeRecord.j0 j k true c r) ((⟨#[]⟩ : ByteArray), false) := by
    refine Ev.step (fun j => by rw [impl_EncodeRecord.j0]) ?_
    simp only [if_true]
    exact Ev.now _
  unfold impl_EncodeRecord.f
  simp only [between_iff, Option.bind_some]
  by_cases g : 0 ≤ k ∧ k ≤ 59
  · simp only [decide_eq_true g, if_true]
    refine Ev.bind (implRecord_ev c r hc hr) ?_
    by_cases g1 : RecordOk c r
    · rw [if_pos ⟨g.1, g.2, g1⟩]
      obtain ⟨k, rfl⟩ := Int.eq_ofNat_of_zero_le g.1
      have hk : k ≤ 1048576 := by omega
      have h1 := numOf_size k hk
      have h2 := com_size g1
      have h3 := body_size hk g1
      obtain ⟨a, b, h4, h5, h6, h7⟩ := append_ev (bodyOf k c r) (by omega)
      have hb : b = true := h7 (by omega) (body_free g1).1
      have ha := h6 hb
      subst hb ha
      simp only [decide_eq_true g1, Bool.not_true]
      refine Ev.step (fun j => by rw [impl_EncodeRecord.j0]) ?_
      simp only [Bool.false_eq_true, if_false, itoa_num k hk, Option.bind_some, if_pos (show (numOf k).size + 1 ≤ 9223372036854775807 by omega), if_pos (show (numOf k).size + 1 + c.size ≤ 9223372036854775807 by omega), if_pos (show (numOf k).size + 1 + c.size + 1 ≤ 9223372036854775807 by omega), if_pos (show (numOf k).size + 1 + c.size + 1 + r.size ≤ 9223372036854775807 by omega)]
      rw [bodyOf_eq] at h4
      refine Ev.bind h4 ?_
      rw [← bodyOf_eq, lineOf_eq]
      simp only [if_pos (show (sealOf (bodyOf k c r)).size + 1 ≤ 9223372036854775807 by omega), Int.toNat_natCast]
      exact Ev.now _
    · rw [if_neg fun x => g1 x.2.2]
      simp only [decide_eq_false g1, Bool.not_false]
      exact hj1
  · rw [if_neg fun x => g ⟨x.1, x.2.1⟩]
    simp only [decide_eq_false g, Bool.false_eq_true, if_false]
    exact hj1
theorem szRec_ev (a b : ByteArray) (ha : a.size ≤ 140737488351232) (hb : b.size ≤ 140737488351232) : ∃ t, laws_szLogRecord.f a b 1048576 = some t ∧ (¬ t < 0 → a.size ≤ 1048576 ∧ b.size ≤ 1048576) := by
  unfold laws_szLogRecord.f
  rw [wrap_of (x := 1048576 - (a.size : Int)) (by omega) (by omega), wrap_of (x := 1048576 - (a.size : Int) - (b.size : Int)) (by omega) (by omega)]
  by_cases g : (1048576 - (a.size : Int)) < 0
  · rw [if_pos g]; exact ⟨_, rfl, fun h => absurd (by decide) h⟩
  · rw [if_neg g]
    by_cases g1 : (1048576 - (a.size : Int) - (b.size : Int)) < 0
    · rw [if_pos g1]; exact ⟨_, rfl, fun h => absurd (by decide) h⟩
    · rw [if_neg g1]; exact ⟨_, rfl, fun _ => ⟨by omega, by omega⟩⟩
theorem specEncode_ev (k : Int) (c r : ByteArray) (hc : c.size ≤ 1048576) (hr : r.size ≤ 1048576) :
    Ev (fun j => spec_EncodeRecord.f j k c r) (if 0 ≤ k ∧ k ≤ 59 ∧ RecordOk c r then (lineOf k.toNat c r, true) else ((⟨#[]⟩ : ByteArray), false)) := by
  unfold spec_EncodeRecord.f
  rw [in_iff]
  refine Ev.bind (Ev.now _) ?_
  by_cases g : 0 ≤ k ∧ k ≤ 59
  · simp only [decide_eq_true g, if_true]
    refine Ev.bind (specRecord_ev c r hc hr) ?_
    by_cases g1 : RecordOk c r
    · rw [if_pos ⟨g.1, g.2, g1⟩]
      obtain ⟨k, rfl⟩ := Int.eq_ofNat_of_zero_le g.1
      simp only [decide_eq_true g1, if_true, Int.toNat_natCast]
      exact Ev.bind (specLine_ev (by omega) g1) (Ev.now _)
    · rw [if_neg fun x => g1 x.2.2]
      simp only [decide_eq_false g1, Bool.false_eq_true, if_false]
      exact Ev.now _
  · rw [if_neg fun x => g ⟨x.1, x.2.1⟩]
    simp only [decide_eq_false g, Bool.false_eq_true, if_false]
    exact Ev.now _
theorem toRec_eq (c r : ByteArray) : laws_toLogRecord.f c r = some (c, r) := rfl
theorem FnExactEncodeRecord (k : Int) (c r : ByteArray) (hc : c.size ≤ 140737488351232) (hr : r.size ≤ 140737488351232) : ∃ j, laws_FnExactEncodeRecord.f j k c r = some true := by
  have main : Ev (fun j => laws_FnExactEncodeRecord.f j k c r) true := by
    unfold laws_FnExactEncodeRecord.f
    obtain ⟨t, ht, hz⟩ := szRec_ev c r hc hr
    rw [ht, toRec_eq]
    refine Ev.bind (Ev.now t) ?_
    by_cases g : t < 0
    · simp only [if_pos g]; exact Ev.now _
    · simp only [if_neg g]
      obtain ⟨z1, z2⟩ := hz g
      have h1 := specEncode_ev k c r z1 z2
      have h2 := encode_ev k c r z1 z2
      generalize (if 0 ≤ k ∧ k ≤ 59 ∧ RecordOk c r then (lineOf k.toNat c r, true) else ((⟨#[]⟩ : ByteArray), false)) = x at h1 h2
      obtain ⟨x, b⟩ := x
      refine Ev.bind (Ev.now (c, r)) ?_
      refine Ev.bind h1 ?_
      refine Ev.bind (Ev.now (c, r)) ?_
      refine Ev.bind h2 ?_
      simp only [if_true]
      cases b
      · exact Ev.now _
      · exact Ev.now _
  obtain ⟨K, hK⟩ := main
  exact ⟨K, hK K (Nat.le_refl _)⟩
end Go.Proofs.YtklolnaonampeaaDoor.Pure
