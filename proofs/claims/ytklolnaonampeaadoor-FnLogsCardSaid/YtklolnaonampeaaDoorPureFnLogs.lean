import Derived.Test.YtklolnaonampeaaDoorPFnLogsx
import Derived.Test.YtklolnaonampeaaDoorPlain
import Derived.Lib.ItoaLen
import Derived.Lib.ItoaNum
import Derived.Lib.ItoaMem
import Derived.Lib.IndexLaws
/-! What the reference and the program compute agrees: plain lemmas, by rounds. -/
namespace Go.Proofs.YtklolnaonampeaaDoor.Pure
open Go.RowKit Go.Lib Go.Proofs.YtklolnaonampeaaDoor.Plain Go.Proofs.YtklolnaonampeaaDoor.PFnLogs Go.Proofs.YtklolnaonampeaaDoorW.PrintWords Go.Proofs.YtklolnaonampeaaDoorW.PrintLast Go.Proofs.YtklolnaonampeaaDoorW.PrintMore
open Classical
set_option linter.unusedVariables false
set_option linter.unusedSimpArgs false
/-! ### plain texts and records -/
def PlainAt (s : ByteArray) (i : Nat) : Prop := 32 ≤ bt s i ∧ bt s i ≤ 126 ∧ bt s i ≠ 35
def PlainOk (s : ByteArray) (m : Int) : Prop := (∀ i, i < s.size → PlainAt s i) ∧ (s.size : Int) ≤ m
theorem in_iff (a b c : Int) : spec_l1In.f a b c = some (decide (b ≤ a ∧ a ≤ c)) := by
  unfold spec_l1In.f
  by_cases h : a ≥ b
  · rw [if_pos h]; congr 1; exact decide_eq_decide.2 ⟨fun x => ⟨h, x⟩, fun x => x.2⟩
  · rw [if_neg h]; congr 1; exact (decide_eq_false fun x => h x.1).symm
theorem between_iff (a b c : Int) : impl_between.f a b c = some (decide (b ≤ a ∧ a ≤ c)) := by
  unfold impl_between.f
  by_cases h : a ≥ b
  · rw [if_pos h]; congr 1; exact decide_eq_decide.2 ⟨fun x => ⟨h, x⟩, fun x => x.2⟩
  · rw [if_neg h]; congr 1; exact (decide_eq_false fun x => h x.1).symm
theorem wrap_bt (s : ByteArray) (i : Int) : wrap64 (bt s i) = bt s i := by have := bt_range s i; exact wrap_of (by omega) (by omega)

theorem specBytes_ev (s : ByteArray) (m : Int) (hs : s.size ≤ 1048576) : Ev (fun k => spec_l12Bytes.f k s m) (decide (PlainOk s m)) := by
  unfold spec_l12Bytes.f
  refine Ev.check (F := fun k i => spec_l12Bytes.l0 k s m i) (n := s.size) (PlainAt s) (X := (s.size : Int) ≤ m) (Y := PlainOk s m) Iff.rfl ?_ ?_ ?_
  · refine Ev.step (fun k => by rw [spec_l12Bytes.l0]) ?_
    simp only [if_neg (show ¬ ((s.size : Int) < s.size) by omega)]
    exact Ev.now _
  · intro i hi g r ih
    obtain ⟨g1, g2, g3⟩ := g
    refine Ev.step (fun k => by rw [spec_l12Bytes.l0]) ?_
    simp only [if_pos (show (i : Int) < s.size by omega), if_pos (show (0 : Int) ≤ i by omega), wrap_bt, in_iff, Option.bind_some, decide_eq_true_eq, if_pos (show 32 ≤ bt s i ∧ bt s i ≤ 126 from ⟨g1, g2⟩), if_neg g3, wrap_succ hi (show s.size ≤ 140737488351232 by omega)]
    exact ih
  · intro i hi g
    refine Ev.step (fun k => by rw [spec_l12Bytes.l0]) ?_
    simp only [if_pos (show (i : Int) < s.size by omega), if_pos (show (0 : Int) ≤ i by omega), wrap_bt, in_iff, Option.bind_some, decide_eq_true_eq]
    by_cases a : 32 ≤ bt s i ∧ bt s i ≤ 126
    · have b : bt s i = 35 := Classical.byContradiction fun b => g ⟨a.1, a.2, b⟩
      simp only [if_pos a, if_pos b]; exact Ev.now _
    · simp only [if_neg a]; exact Ev.now _
theorem implPlain_ev (s : ByteArray) (m : Int) (hs : s.size ≤ 1048576) : Ev (fun k => impl_isPlain.f k s m) (decide (PlainOk s m)) := by
  unfold impl_isPlain.f
  refine Ev.check (F := fun k i => impl_isPlain.l0 k s m s.size i) (n := s.size) (PlainAt s) (X := (s.size : Int) ≤ m) (Y := PlainOk s m) Iff.rfl ?_ ?_ ?_
  · refine Ev.step (fun k => by rw [impl_isPlain.l0]) ?_
    simp only [if_neg (show ¬ ((s.size : Int) < s.size) by omega)]
    exact Ev.now _
  · intro i hi g r ih
    obtain ⟨g1, g2, g3⟩ := g
    refine Ev.step (fun k => by rw [impl_isPlain.l0]) ?_
    simp only [if_pos (show (i : Int) < s.size by omega), if_pos (show (0 : Int) ≤ i by omega), if_neg (show ¬ (bt s i < 32) by omega), if_neg (show ¬ (bt s i > 126) by omega), if_neg g3, wrap_succ hi (show s.size ≤ 140737488351232 by omega)]
    exact ih
  · intro i hi g
    refine Ev.step (fun k => by rw [impl_isPlain.l0]) ?_
    simp only [if_pos (show (i : Int) < s.size by omega), if_pos (show (0 : Int) ≤ i by omega)]
    by_cases a : bt s i < 32
    · simp only [if_pos a]; exact Ev.now _
    · by_cases b : bt s i > 126
      · simp only [if_neg a, if_pos b]; exact Ev.now _
      · have c : bt s i = 35 := Classical.byContradiction fun c => g ⟨by omega, by omega, c⟩
        simp only [if_neg a, if_neg b, if_pos c]; exact Ev.now _

/-- A byte stands in a text. -/
def Has (s : ByteArray) (c : UInt8) : Prop := c ∈ s.data.toList
theorem bt_get (s : ByteArray) (i : Nat) (h : i < s.data.toList.length) : bt s i = (s.data.toList[i].toNat : Int) := by
  have h' : i < s.size := by simpa using h
  have := bt_at s (i : Int) (by simpa using h')
  rw [← this]; rfl
theorem has_iff (s : ByteArray) (c : UInt8) : Has s c ↔ ¬ ∀ i, i < s.size → ¬ bt s i = (c.toNat : Int) := by
  unfold Has
  constructor
  · intro h a
    obtain ⟨i, hi, e⟩ := List.getElem_of_mem h
    exact a i (by simpa using hi) (by rw [bt_get s i hi, e])
  · intro h
    refine Classical.byContradiction fun g => h fun i hi e => g ?_
    have hl : i < s.data.toList.length := by simpa using hi
    rw [bt_get s i hl] at e
    have : s.data.toList[i] = c := UInt8.toNat_inj.1 (by omega)
    exact this ▸ List.getElem_mem hl
theorem stands_ev (s : ByteArray) (c : UInt8) (hs : s.size ≤ 1048576) : Ev (fun k => spec_l1Stands.f k s c.toNat) (decide (Has s c)) := by
  unfold spec_l1Stands.f
  have hl := Ev.loop (F := fun k i => spec_l1Stands.l0 k s c.toNat i) (n := s.size) (good := fun i => ¬ bt s i = (c.toNat : Int)) (· = false) (· = true) ?_ ?_ ?_
  · obtain ⟨r, h, h1, h2⟩ := hl
    have e : r = decide (Has s c) := by
      by_cases a : ∀ i, i < s.size → ¬ bt s i = (c.toNat : Int)
      · rw [h1 a]; exact (decide_eq_false fun z => (has_iff s c).1 z a).symm
      · rw [h2 a]; exact (decide_eq_true ((has_iff s c).2 a)).symm
    rw [← e]; exact h
  · refine ⟨false, Ev.step (fun k => by rw [spec_l1Stands.l0]) ?_, rfl⟩
    simp only [if_neg (show ¬ ((s.size : Int) < s.size) by omega)]
    exact Ev.now _
  · intro i hi g r ih
    refine Ev.step (fun k => by rw [spec_l1Stands.l0]) ?_
    simp only [if_pos (show (i : Int) < s.size by omega), if_pos (show (0 : Int) ≤ i by omega), if_neg g, wrap_succ hi (show s.size ≤ 140737488351232 by omega)]
    exact ih
  · intro i hi g
    refine ⟨true, Ev.step (fun k => by rw [spec_l1Stands.l0]) ?_, rfl⟩
    simp only [if_pos (show (i : Int) < s.size by omega), if_pos (show (0 : Int) ≤ i by omega), if_pos (Classical.not_not.1 g)]
    exact Ev.now _
theorem indexByte_mem (l : List UInt8) (c : UInt8) : (0 ≤ Lib.indexByte l c) ↔ c ∈ l := by
  induction l with
  | nil => simp [Lib.indexByte]
  | cons b l ih =>
    unfold Lib.indexByte
    have hg := Lib.indexByte_ge l c
    by_cases h : b = c
    · subst h; simp
    · have h1 : (b == c) = false := by simpa using h
      rw [h1]; simp only [Bool.false_eq_true, if_false]
      by_cases e : Lib.indexByte l c = -1
      · have : ¬ c ∈ l := fun hm => by have := ih.2 hm; omega
        simp [e, this, Ne.symm h]
      · have : c ∈ l := ih.1 (by omega)
        simp only [beq_iff_eq, e, if_false, List.mem_cons, this, or_true, iff_true]; omega
theorem index_one (s : ByteArray) (c : UInt8) : stringslite_Index.f s ⟨#[c]⟩ = some (Lib.indexByte s.data.toList c) := by
  unfold stringslite_Index.f; rw [if_pos (show (⟨#[c]⟩ : ByteArray).data.size = 1 from rfl)]; rfl
theorem contains_iff (s : ByteArray) (c : UInt8) : strings_Contains.f s ⟨#[c]⟩ = some (decide (Has s c)) := by
  unfold strings_Contains.f strings_Index.f
  simp only [index_one, Option.bind_some]
  congr 1
  exact decide_eq_decide.2 (indexByte_mem _ _)

def RecordOk (c r : ByteArray) : Prop := ¬ c.toList = [] ∧ PlainOk c 160 ∧ PlainOk r 200 ∧ ¬ Has c 64
theorem specRecord_ev (c r : ByteArray) (hc : c.size ≤ 1048576) (hr : r.size ≤ 1048576) : Ev (fun k => spec_l12Record.f k c r) (decide (RecordOk c r)) := by
  unfold spec_l12Record.f
  by_cases g : c.toList = []
  · simp only [if_pos g]
    rw [decide_eq_false fun x : RecordOk c r => x.1 g]; exact Ev.now _
  · simp only [if_neg g]
    refine Ev.bind (specBytes_ev c 160 hc) ?_
    by_cases g1 : PlainOk c 160
    · simp only [decide_eq_true g1, if_true]
      refine Ev.bind (stands_ev c 64 hc) ?_
      by_cases g2 : Has c 64
      · simp only [decide_eq_true g2, if_true]
        rw [decide_eq_false fun x : RecordOk c r => x.2.2.2 g2]; exact Ev.now _
      · simp only [decide_eq_false g2, Bool.false_eq_true, if_false]
        have e : decide (RecordOk c r) = decide (PlainOk r 200) := decide_eq_decide.2 ⟨fun x => x.2.2.1, fun x => ⟨g, g1, x, g2⟩⟩
        rw [e]
        exact Ev.bind (specBytes_ev r 200 hr) (Ev.now _)
    · simp only [decide_eq_false g1, Bool.false_eq_true, if_false]
      rw [decide_eq_false fun x : RecordOk c r => g1 x.2.1]; exact Ev.now _
theorem implRecord_ev (c r : ByteArray) (hc : c.size ≤ 1048576) (hr : r.size ≤ 1048576) : Ev (fun k => impl_IsValidRecord.f k c r) (decide (RecordOk c r)) := by
  unfold impl_IsValidRecord.f
  by_cases g : c.toList = []
  · simp only [if_pos g]
    rw [decide_eq_false fun x : RecordOk c r => x.1 g]; exact Ev.now _
  · simp only [if_neg g]
    refine Ev.bind (implPlain_ev c 160 hc) ?_
    by_cases g1 : PlainOk c 160
    · simp only [decide_eq_true g1, if_true]
      refine Ev.bind (implPlain_ev r 200 hr) ?_
      by_cases g2 : PlainOk r 200
      · simp only [decide_eq_true g2, if_true, contains_iff, Option.bind_some]
        have e : decide (RecordOk c r) = !decide (Has c 64) := by
          rw [← decide_not]; exact decide_eq_decide.2 ⟨fun x => x.2.2.2, fun x => ⟨g, g1, g2, x⟩⟩
        rw [e]; exact Ev.now _
      · simp only [decide_eq_false g2, Bool.false_eq_true, if_false]
        rw [decide_eq_false fun x : RecordOk c r => g2 x.2.2.1]; exact Ev.now _
    · simp only [decide_eq_false g1, Bool.false_eq_true, if_false]
      rw [decide_eq_false fun x : RecordOk c r => g1 x.2.1]; exact Ev.now _
/-! ### numbers, sums, seals -/
theorem digit_cut (d : Nat) (h : d < 10) : (⟨#[48, 49, 50, 51, 52, 53, 54, 55, 56, 57]⟩ : ByteArray).extract d (d + 1) = ⟨#[UInt8.ofNat (48 + d)]⟩ := by
  have : d = 0 ∨ d = 1 ∨ d = 2 ∨ d = 3 ∨ d = 4 ∨ d = 5 ∨ d = 6 ∨ d = 7 ∨ d = 8 ∨ d = 9 := by omega
  rcases this with rfl | rfl | rfl | rfl | rfl | rfl | rfl | rfl | rfl | rfl <;> rfl
theorem numEx (n : Nat) : ∃ t : ByteArray, t = ⟨(Lib.decDigits n).toArray⟩ := ⟨_, rfl⟩
noncomputable def numOf (n : Nat) : ByteArray := Classical.choose (numEx n)
theorem numOf_eq (n : Nat) : numOf n = ⟨(Lib.decDigits n).toArray⟩ := Classical.choose_spec (numEx n)
theorem numOf_small {n : Nat} (h : n < 10) : numOf n = ⟨#[UInt8.ofNat (48 + n)]⟩ := by rw [numOf_eq, Lib.decDigits_one h]
theorem numOf_step {n : Nat} (h : ¬ n < 10) : numOf n = numOf (n / 10) ++ ⟨#[UInt8.ofNat (48 + n % 10)]⟩ := by
  rw [numOf_eq, numOf_eq]
  rw [Lib.decDigits, dif_neg h]
  apply ByteArray.ext
  rw [ByteArray.data_append]
  simp
theorem numOf_size (n : Nat) (h : n ≤ 1048576) : (numOf n).size ≤ 21 := by
  have := Lib.itoa_length_le (n : Int) (by omega) (by omega)
  rw [Lib.itoa_nonneg] at this
  rw [numOf_eq]
  simpa [ByteArray.size] using this
theorem num_ev (n : Nat) (hn : n ≤ 1048576) : Ev (fun k => spec_l1Num.f k n) (numOf n) := by
  induction n using Nat.strongRecOn with
  | _ n ih =>
    refine Ev.step (fun k => by rw [spec_l1Num.f]) ?_
    have w1 : wrap64 ((n : Int) + 1) = ((n + 1 : Nat) : Int) := by rw [wrap_of (by omega) (by omega)]; rfl
    by_cases g : n < 10
    · simp only [if_neg (show ¬ ((n : Int) < 0) by omega), if_pos (show (n : Int) < 10 by omega), if_pos (show (0 : Int) ≤ n by omega), w1, if_pos (show (n : Int) ≤ ((n + 1 : Nat) : Int) by omega), if_pos (show ((n + 1 : Nat) : Int) ≤ 10 by omega), Int.toNat_natCast, digit_cut n g, ← numOf_small g]
      exact Ev.now _
    · have hd : n % 10 < 10 := by omega
      have t1 : wrap64 (Int.tdiv n 10) = ((n / 10 : Nat) : Int) := by rw [show Int.tdiv (n : Int) 10 = ((n / 10 : Nat) : Int) from rfl, wrap_of (by omega) (by omega)]
      have t2 : Int.tmod n 10 = ((n % 10 : Nat) : Int) := rfl
      have t3 : wrap64 (((n % 10 : Nat) : Int) + 1) = ((n % 10 + 1 : Nat) : Int) := by rw [wrap_of (by omega) (by omega)]; rfl
      have hs := numOf_size (n / 10) (by omega)
      simp only [if_neg (show ¬ ((n : Int) < 0) by omega), if_neg (show ¬ ((n : Int) < 10) by omega), t1, t2, t3]
      refine Ev.bind (ih (n / 10) (by omega) (by omega)) ?_
      simp only [if_pos (show (0 : Int) ≤ ((n % 10 : Nat) : Int) by omega), if_pos (show ((n % 10 : Nat) : Int) ≤ ((n % 10 + 1 : Nat) : Int) by omega), if_pos (show ((n % 10 + 1 : Nat) : Int) ≤ 10 by omega), Int.toNat_natCast, digit_cut _ hd]
      rw [if_pos (show (numOf (n / 10)).size + (n % 10 + 1 - n % 10) ≤ 9223372036854775807 by omega), ← numOf_step g]
      exact Ev.now _
theorem itoa_num (n : Nat) (hn : n ≤ 1048576) : strconv_Itoa.f n = some (numOf n) := by
  unfold strconv_Itoa.f
  rw [if_pos ⟨by omega, by omega⟩, Lib.itoa_nonneg, numOf_eq]
theorem num_digits (n : Nat) : ∀ b ∈ Lib.decDigits n, 48 ≤ b.toNat ∧ b.toNat ≤ 57 := by
  induction n using Nat.strongRecOn with
  | _ n ih =>
    intro b hb
    have dig : ∀ d : Nat, d < 10 → 48 ≤ (UInt8.ofNat (48 + d)).toNat ∧ (UInt8.ofNat (48 + d)).toNat ≤ 57 := by
      intro d hd
      rw [UInt8.toNat_ofNat']
      omega
    by_cases g : n < 10
    · rw [Lib.decDigits_one g] at hb
      rw [List.mem_singleton.1 hb]
      exact dig n g
    · rw [Lib.decDigits, dif_neg g] at hb
      rcases List.mem_append.1 hb with hb | hb
      · exact ih (n / 10) (by omega) b hb
      · rw [List.mem_singleton.1 hb]
        exact dig _ (by omega)
/-! ### sums, seals, lines -/
def stepOf (h b : Int) : Int := Int.tmod (wrap64 ((wrap64 ((wrap64 (41 * h)) + b)) + 1)) 999979
theorem stepOf_range {h b : Int} (h0 : 0 ≤ h) (h1 : h < 999979) (b0 : 0 ≤ b) (b1 : b ≤ 255) : 0 ≤ stepOf h b ∧ stepOf h b < 999979 := by
  unfold stepOf
  rw [wrap_of (x := 41 * h) (by omega) (by omega), wrap_of (x := 41 * h + b) (by omega) (by omega), wrap_of (by omega) (by omega)]
  exact ⟨Int.tmod_nonneg _ (by omega), Int.tmod_lt_of_pos _ (by decide)⟩
theorem sum_same (s : ByteArray) (hs : s.size ≤ 1048576) : ∃ v : Nat, v < 999979 ∧ Ev (fun k => spec_l1Sum.f k s) (v : Int) ∧ Ev (fun k => impl_checksum.f k s) (v : Int) := by
  have main : ∀ d i : Nat, i ≤ s.size → s.size - i = d → ∀ h : Int, 0 ≤ h → h < 999979 → ∃ v : Nat, v < 999979 ∧ Ev (fun k => spec_l1Sum.l0 k s h i) (v : Int) ∧ Ev (fun k => impl_checksum.l0 k s h s.size i) (v : Int) := by
    intro d
    induction d with
    | zero =>
      intro i hi hd h h0 h1
      obtain rfl : i = s.size := by omega
      obtain ⟨v, rfl⟩ := Int.eq_ofNat_of_zero_le h0
      refine ⟨v, by omega, Ev.step (fun k => by rw [spec_l1Sum.l0]) ?_, Ev.step (fun k => by rw [impl_checksum.l0]) ?_⟩ <;>
      · simp only [if_neg (show ¬ ((s.size : Int) < s.size) by omega)]
        exact Ev.now _
    | succ d ih =>
      intro i hi hd h h0 h1
      have hi' : i < s.size := by omega
      have hb := bt_range s i
      obtain ⟨r0, r1⟩ := stepOf_range h0 h1 hb.1 hb.2
      obtain ⟨v, hv, q1, q2⟩ := ih (i + 1) (by omega) (by omega) (stepOf h (bt s i)) r0 r1
      refine ⟨v, hv, Ev.step (fun k => by rw [spec_l1Sum.l0]) ?_, Ev.step (fun k => by rw [impl_checksum.l0]) ?_⟩
      · simp only [if_pos (show (i : Int) < s.size by omega), if_pos (show (0 : Int) ≤ i by omega), wrap_bt, wrap_succ hi' (show s.size ≤ 140737488351232 by omega)]
        exact q1
      · simp only [if_pos (show (i : Int) < s.size by omega), if_pos (show (0 : Int) ≤ i by omega), wrap_bt, wrap_succ hi' (show s.size ≤ 140737488351232 by omega)]
        exact q2
  unfold spec_l1Sum.f impl_checksum.f
  exact main s.size 0 (by omega) (by omega) 7 (by decide) (by decide)
noncomputable def sumOf (s : ByteArray) : Nat := if h : s.size ≤ 1048576 then Classical.choose (sum_same s h) else 0
theorem sumOf_lt (s : ByteArray) (hs : s.size ≤ 1048576) : sumOf s < 999979 := by unfold sumOf; rw [dif_pos hs]; exact (Classical.choose_spec (sum_same s hs)).1
theorem specSum_ev (s : ByteArray) (hs : s.size ≤ 1048576) : Ev (fun k => spec_l1Sum.f k s) (sumOf s : Int) := by unfold sumOf; rw [dif_pos hs]; exact (Classical.choose_spec (sum_same s hs)).2.1
theorem implSum_ev (s : ByteArray) (hs : s.size ≤ 1048576) : Ev (fun k => impl_checksum.f k s) (sumOf s : Int) := by unfold sumOf; rw [dif_pos hs]; exact (Classical.choose_spec (sum_same s hs)).2.2
theorem sealEx (s : ByteArray) : ∃ t : ByteArray, t = (s ++ (⟨#[35]⟩ : ByteArray)) ++ numOf (sumOf s) := ⟨_, rfl⟩
noncomputable def sealOf (s : ByteArray) : ByteArray := Classical.choose (sealEx s)
theorem sealOf_eq (s : ByteArray) : sealOf s = (s ++ (⟨#[35]⟩ : ByteArray)) ++ numOf (sumOf s) := Classical.choose_spec (sealEx s)
theorem specSeal_ev (s : ByteArray) (hs : s.size ≤ 1048576) : Ev (fun k => spec_l1Seal.f k s) (sealOf s) := by
  unfold spec_l1Seal.f
  rw [sealOf_eq]
  have h1 := sumOf_lt s hs
  have h2 := numOf_size (sumOf s) (by omega)
  simp only [if_pos (show s.size + 1 ≤ 9223372036854775807 by omega)]
  refine Ev.bind (specSum_ev s hs) (Ev.bind (num_ev (sumOf s) (by omega)) ?_)
  simp only [if_pos (show s.size + 1 + (numOf (sumOf s)).size ≤ 9223372036854775807 by omega)]
  exact Ev.now _
/-! ### pieces of texts -/
theorem wrap_add {a b : Nat} (h : a + b ≤ 140737488351232) : wrap64 ((a : Int) + (b : Int)) = ((a + b : Nat) : Int) := by rw [wrap_of (by omega) (by omega)]; rfl
theorem wrap_one {a : Nat} (h : a ≤ 140737488351232) : wrap64 ((a : Int) + 1) = ((a + 1 : Nat) : Int) := by rw [wrap_of (by omega) (by omega)]; rfl
abbrev L (s : ByteArray) : List UInt8 := s.data.toList
theorem L_append (a b : ByteArray) : L (a ++ b) = L a ++ L b := by unfold L; rw [ByteArray.data_append, Array.toList_append]
theorem L_size (s : ByteArray) : s.size = (L s).length := by unfold L; rw [Array.length_toList]; rfl
theorem L_extract (s : ByteArray) (a b : Nat) : L (s.extract a b) = ((L s).drop a).take (b - a) := by
  unfold L
  rw [ByteArray.data_extract, Array.toList_extract, List.extract_eq_take_drop]
theorem L_inj {a b : ByteArray} (h : L a = L b) : a = b := ByteArray.ext (Array.toList_inj.1 h)
theorem L_one (c : UInt8) : L (⟨#[c]⟩ : ByteArray) = [c] := rfl
theorem L_nil : L (⟨#[]⟩ : ByteArray) = [] := rfl
theorem L_toList (s : ByteArray) : s.toList = L s := ByteArray.toList_eq s
theorem L_head (s : ByteArray) (i : Nat) : L (s.extract 0 i) = (L s).take i := by rw [L_extract]; simp
theorem L_tail (s : ByteArray) (i : Nat) : L (s.extract i s.size) = (L s).drop i := by
  rw [L_extract, List.take_of_length_le]
  rw [List.length_drop, L_size]; omega
def upTo (c : UInt8) (l : List UInt8) : List UInt8 := l.takeWhile (· != c)
theorem upTo_none {c : UInt8} {l : List UInt8} (h : c ∉ l) : upTo c l = l := by
  unfold upTo
  induction l with
  | nil => rfl
  | cons a l ih =>
    have h1 : (a != c) = true := by simp only [bne_iff_ne]; exact fun e => h (e ▸ List.mem_cons_self ..)
    rw [List.takeWhile_cons, h1, if_pos rfl, ih fun x => h (List.mem_cons_of_mem _ x)]
theorem upTo_join {c : UInt8} {a b : List UInt8} (h : c ∉ a) : upTo c (a ++ c :: b) = a := by
  unfold upTo
  induction a with
  | nil => simp
  | cons x a ih =>
    have h1 : (x != c) = true := by simp only [bne_iff_ne]; exact fun e => h (e ▸ List.mem_cons_self ..)
    rw [List.cons_append, List.takeWhile_cons, h1, if_pos rfl, ih fun x => h (List.mem_cons_of_mem _ x)]
theorem upTo_free (c : UInt8) (l : List UInt8) : c ∉ upTo c l := by
  unfold upTo
  induction l with
  | nil => simp
  | cons a l ih =>
    rw [List.takeWhile_cons]
    by_cases e : a = c
    · subst e; simp
    · have h1 : (a != c) = true := by simpa using e
      rw [h1, if_pos rfl]
      intro h
      rcases List.mem_cons.1 h with h | h
      · exact e h.symm
      · exact ih h
theorem upTo_split {c : UInt8} {l : List UInt8} (h : c ∈ l) : ∃ b, l = upTo c l ++ c :: b := by
  unfold upTo
  induction l with
  | nil => cases h
  | cons a l ih =>
    by_cases e : a = c
    · subst e; exact ⟨l, by simp⟩
    · have h1 : (a != c) = true := by simpa using e
      obtain ⟨b, hb⟩ := ih ((List.mem_cons.1 h).resolve_left (Ne.symm e))
      refine ⟨b, ?_⟩
      rw [List.takeWhile_cons, h1, if_pos rfl, List.cons_append, ← hb]
theorem upTo_le (c : UInt8) (l : List UInt8) : (upTo c l).length ≤ l.length := (List.takeWhile_sublist _).length_le
theorem upTo_lt {c : UInt8} {l : List UInt8} (h : c ∈ l) : (upTo c l).length < l.length := by
  obtain ⟨b, hb⟩ := upTo_split h
  have := congrArg List.length hb
  simp only [List.length_append, List.length_cons] at this
  omega
theorem indexByte_eq (l : List UInt8) (c : UInt8) : Lib.indexByte l c = if c ∈ l then ((upTo c l).length : Int) else -1 := by
  induction l with
  | nil => rfl
  | cons b l ih =>
    unfold Lib.indexByte
    by_cases h : b = c
    · subst h; simp [upTo]
    · have h1 : (b == c) = false := by simpa using h
      have h2 : (b != c) = true := by simpa using h
      rw [h1]; simp only [Bool.false_eq_true, if_false]
      have hu : upTo c (b :: l) = b :: upTo c l := by unfold upTo; rw [List.takeWhile_cons, h2, if_pos rfl]
      rw [ih, hu]
      by_cases e : c ∈ l
      · rw [if_pos e, if_pos (List.mem_cons_of_mem _ e)]
        have : (((upTo c l).length : Int) == -1) = false := by simp
        rw [this]; simp
      · have hn : ¬ c ∈ b :: l := by
          intro x; rcases List.mem_cons.1 x with x | x
          · exact h x.symm
          · exact e x
        rw [if_neg e, if_neg hn]; rfl
theorem bt_L (s : ByteArray) (i : Nat) (h : i < s.size) : bt s i = ((L s)[i]'(by rw [← L_size]; exact h)).toNat := bt_get s i (by rw [← L_size]; exact h)
theorem bt_eq (s : ByteArray) (c : UInt8) (i : Nat) (h : i < s.size) : bt s i = (c.toNat : Int) ↔ (L s)[i]'(by rw [← L_size]; exact h) = c := by
  rw [bt_L s i h]
  constructor
  · intro e; exact UInt8.toNat_inj.1 (by omega)
  · intro e; rw [e]
/-! ### cuts -/
theorem cut_some (s : ByteArray) (c : UInt8) (hs : s.size ≤ 1048576) (h : c ∈ L s) : ∃ a b, strings_Cut.f s ⟨#[c]⟩ = some (a, b, true) ∧ L s = L a ++ c :: L b ∧ c ∉ L a := by
  obtain ⟨b, hb⟩ := upTo_split h
  have hl := upTo_lt h
  rw [← L_size] at hl
  have hone : (⟨#[c]⟩ : ByteArray).size = 1 := rfl
  unfold strings_Cut.f stringslite_Cut.f
  rw [index_one, indexByte_eq, if_pos h]
  simp only [Option.bind_some, hone]
  have hw : wrap64 (((upTo c (L s)).length : Int) + ((1 : Nat) : Int)) = (((upTo c (L s)).length + 1 : Nat) : Int) := by rw [wrap_of (by omega) (by omega)]; rfl
  rw [if_pos (show ((upTo c (L s)).length : Int) ≥ 0 by omega), if_pos (show (0 : Int) ≤ ((upTo c (L s)).length : Int) by omega), if_pos (show ((upTo c (L s)).length : Int) ≤ (s.size : Int) by omega), hw,
    if_pos (show (0 : Int) ≤ (((upTo c (L s)).length + 1 : Nat) : Int) by omega), if_pos (show (((upTo c (L s)).length + 1 : Nat) : Int) ≤ (s.size : Int) by omega), Int.toNat_natCast, Int.toNat_natCast]
  have e1 : L (s.extract 0 (upTo c (L s)).length) = upTo c (L s) := by
    rw [L_head]
    conv => lhs; rw [hb]
    rw [upTo_join (upTo_free _ _), List.take_append_of_le_length (Nat.le_refl _), List.take_length]
  have e2 : L (s.extract ((upTo c (L s)).length + 1) s.size) = b := by
    rw [L_tail]
    conv => lhs; rw [hb]
    rw [upTo_join (upTo_free _ _)]
    simp [List.drop_append]
  refine ⟨_, _, rfl, ?_, ?_⟩
  · rw [e1, e2]; exact hb
  · rw [e1]; exact upTo_free _ _
theorem cut_none (s : ByteArray) (c : UInt8) (h : c ∉ L s) : strings_Cut.f s ⟨#[c]⟩ = some (s, ⟨#[]⟩, false) := by
  unfold strings_Cut.f stringslite_Cut.f
  rw [index_one, indexByte_eq, if_neg h]
  rfl
theorem cut_any (s : ByteArray) (c : UInt8) (hs : s.size ≤ 1048576) : ∃ a b z, strings_Cut.f s ⟨#[c]⟩ = some (a, b, z) ∧ L a = upTo c (L s) ∧ b.size ≤ s.size ∧ ∀ u v, L s = L u ++ c :: L v → c ∉ L u → a = u ∧ b = v := by
  by_cases h : c ∈ L s
  · obtain ⟨a, b, h1, h2, h3⟩ := cut_some s c hs h
    have ea : L a = upTo c (L s) := by rw [h2, upTo_join h3]
    refine ⟨a, b, true, h1, ea, ?_, fun u v e hu => ?_⟩
    · rw [L_size, L_size s, h2]; simp; omega
    · have eu : L u = upTo c (L s) := by rw [e, upTo_join hu]
      have e1 : a = u := L_inj (ea.trans eu.symm)
      subst e1
      rw [h2] at e
      exact ⟨rfl, L_inj (List.cons.inj (List.append_cancel_left e)).2⟩
  · refine ⟨s, ⟨#[]⟩, false, cut_none s c h, (upTo_none h).symm, Nat.zero_le _, fun u v e hu => absurd ?_ h⟩
    rw [e]; simp
/-- Pieces behind the first one. -/
theorem split_more (s : ByteArray) (c : UInt8) (hs : s.size ≤ 1048576) (d : Nat) : ∀ (i from_ : Nat) (out : List ByteArray), i ≤ s.size → s.size - i = d → from_ ≤ i → out.length ≤ i →
    ∃ m, m ≠ [] ∧ Ev (fun k => spec_l1Split.l0 k s c.toNat out from_ i) (out ++ m) := by
  induction d with
  | zero =>
    intro i from_ out hi hd hf ho
    obtain rfl : i = s.size := by omega
    refine ⟨[s.extract from_ s.size], by simp, Ev.step (fun k => by rw [spec_l1Split.l0]) ?_⟩
    simp only [if_neg (show ¬ ((s.size : Int) < s.size) by omega), if_pos (show (0 : Int) ≤ from_ by omega), if_pos (show (from_ : Int) ≤ s.size by omega), if_pos (show out.length < 8796093022208 by omega), Int.toNat_natCast]
    exact Ev.now _
  | succ d ih =>
    intro i from_ out hi hd hf ho
    have hi' : i < s.size := by omega
    by_cases g : bt s i = (c.toNat : Int)
    · obtain ⟨m, hm, h⟩ := ih (i + 1) (i + 1) (out ++ [s.extract from_ i]) (by omega) (by omega) (by omega) (by simp; omega)
      refine ⟨s.extract from_ i :: m, by simp, Ev.step (fun k => by rw [spec_l1Split.l0]) ?_⟩
      simp only [if_pos (show (i : Int) < s.size by omega), if_pos (show (0 : Int) ≤ i by omega), if_pos g, if_pos (show (0 : Int) ≤ from_ by omega), if_pos (show (from_ : Int) ≤ i by omega), if_pos (show (i : Int) ≤ s.size by omega), if_pos (show out.length < 8796093022208 by omega), Int.toNat_natCast, wrap_succ hi' (show s.size ≤ 140737488351232 by omega)]
      have e : out ++ s.extract from_ i :: m = out ++ [s.extract from_ i] ++ m := by simp
      rw [e]; exact h
    · obtain ⟨m, hm, h⟩ := ih (i + 1) from_ out (by omega) (by omega) (by omega) (by omega)
      refine ⟨m, hm, Ev.step (fun k => by rw [spec_l1Split.l0]) ?_⟩
      simp only [if_pos (show (i : Int) < s.size by omega), if_pos (show (0 : Int) ≤ i by omega), if_neg g, wrap_succ hi' (show s.size ≤ 140737488351232 by omega)]
      exact h
theorem split_first (s : ByteArray) (c : UInt8) (hs : s.size ≤ 1048576) (d : Nat) : ∀ (i : Nat), i ≤ s.size → s.size - i = d → (∀ j, j < i → ¬ bt s j = (c.toNat : Int)) →
    ∃ l, Ev (fun k => spec_l1Split.l0 k s c.toNat [] 0 i) l ∧ 0 < l.length ∧ L (rdOf ByteArray.empty l 0) = upTo c (L s) ∧ (l.length < 2 ↔ c ∉ L s) := by
  induction d with
  | zero =>
    intro i hi hd hn
    obtain rfl : i = s.size := by omega
    have hc : c ∉ L s := fun hm => by
      obtain ⟨j, hj, e⟩ := List.getElem_of_mem hm
      exact hn j (by rw [L_size]; exact hj) ((bt_eq s c j (by rw [L_size]; exact hj)).2 e)
    refine ⟨[s.extract 0 s.size], Ev.step (fun k => by rw [spec_l1Split.l0]) ?_, by simp, ?_, by simp [hc]⟩
    · simp only [if_neg (show ¬ ((s.size : Int) < s.size) by omega), if_pos (show (0 : Int) ≤ 0 by omega), if_pos (show (0 : Int) ≤ s.size by omega), List.length_nil, if_pos (show (0 : Nat) < 8796093022208 by omega)]
      exact Ev.now _
    · show L (s.extract 0 s.size) = _
      rw [L_tail, upTo_none hc]; rfl
  | succ d ih =>
    intro i hi hd hn
    have hi' : i < s.size := by omega
    by_cases g : bt s i = (c.toNat : Int)
    · obtain ⟨m, hm, h⟩ := split_more s c hs d (i + 1) (i + 1) [s.extract 0 i] (by omega) (by omega) (by omega) (by simp)
      have hil : i < (L s).length := by rw [← L_size]; exact hi'
      have he := (bt_eq s c i hi').1 g
      have hsp : L s = (L s).take i ++ c :: (L s).drop (i + 1) := by rw [← he, List.getElem_cons_drop, List.take_append_drop]
      have hfree : c ∉ (L s).take i := fun hm => by
        obtain ⟨j, hj, e⟩ := List.getElem_of_mem hm
        rw [List.length_take] at hj
        rw [List.getElem_take] at e
        exact hn j (by omega) ((bt_eq s c j (by omega)).2 e)
      refine ⟨[s.extract 0 i] ++ m, Ev.step (fun k => by rw [spec_l1Split.l0]) ?_, by simp, ?_, ?_⟩
      · simp only [if_pos (show (i : Int) < s.size by omega), if_pos (show (0 : Int) ≤ i by omega), if_pos g, if_pos (show (0 : Int) ≤ 0 by omega), if_pos (show (i : Int) ≤ s.size by omega), List.length_nil, if_pos (show (0 : Nat) < 8796093022208 by omega), Int.toNat_natCast, wrap_succ hi' (show s.size ≤ 140737488351232 by omega)]
        exact h
      · show L (s.extract 0 i) = _
        rw [L_head]
        conv => rhs; rw [hsp]
        rw [upTo_join hfree]
      · have h1 : 0 < m.length := List.length_pos_iff.2 hm
        have h2 : c ∈ L s := by rw [hsp]; simp
        simp [h2]; omega
    · obtain ⟨l, h, h1, h2, h3⟩ := ih (i + 1) (by omega) (by omega) (fun j hj => by
        rcases Nat.lt_or_eq_of_le (Nat.le_of_lt_succ hj) with hj | rfl
        · exact hn j hj
        · exact g)
      refine ⟨l, Ev.step (fun k => by rw [spec_l1Split.l0]) ?_, h1, h2, h3⟩
      simp only [if_pos (show (i : Int) < s.size by omega), if_pos (show (0 : Int) ≤ i by omega), if_neg g, wrap_succ hi' (show s.size ≤ 140737488351232 by omega)]
      exact h
theorem split_ev (s : ByteArray) (c : UInt8) (hs : s.size ≤ 1048576) : ∃ l, Ev (fun k => spec_l1Split.f k s c.toNat) l ∧ 0 < l.length ∧ L (rdOf ByteArray.empty l 0) = upTo c (L s) ∧ (l.length < 2 ↔ c ∉ L s) := by
  unfold spec_l1Split.f
  exact split_first s c hs s.size 0 (by omega) (by omega) (fun j hj => absurd hj (by omega))
/-! ### lines -/
theorem plain_byte {s : ByteArray} {m : Int} (h : PlainOk s m) {b : UInt8} (hb : b ∈ L s) : 32 ≤ b.toNat ∧ b.toNat ≤ 126 ∧ b.toNat ≠ 35 := by
  obtain ⟨i, hi, e⟩ := List.getElem_of_mem hb
  have hi' : i < s.size := by rw [L_size]; exact hi
  have := h.1 i hi'
  unfold PlainAt at this
  rw [bt_L s i hi', e] at this
  omega
theorem plain_free {s : ByteArray} {m : Int} (h : PlainOk s m) : (35 : UInt8) ∉ L s ∧ (10 : UInt8) ∉ L s := by
  constructor <;> intro hb <;> have := plain_byte h hb
  · exact this.2.2 rfl
  · have h10 : (10 : UInt8).toNat = 10 := rfl
    omega
theorem L_num (n : Nat) : L (numOf n) = Lib.decDigits n := by rw [numOf_eq]
theorem num_free (n : Nat) : (35 : UInt8) ∉ L (numOf n) ∧ (10 : UInt8) ∉ L (numOf n) ∧ (32 : UInt8) ∉ L (numOf n) := by
  rw [L_num]
  refine ⟨?_, ?_, ?_⟩ <;> intro hb <;> have := num_digits n _ hb
  · have e : (35 : UInt8).toNat = 35 := rfl
    omega
  · have e : (10 : UInt8).toNat = 10 := rfl
    omega
  · have e : (32 : UInt8).toNat = 32 := rfl
    omega
theorem bodyEx (k : Nat) (c r : ByteArray) : ∃ t : ByteArray, t = (((numOf k ++ (⟨#[32]⟩ : ByteArray)) ++ c) ++ (⟨#[64]⟩ : ByteArray)) ++ r := ⟨_, rfl⟩
noncomputable def bodyOf (k : Nat) (c r : ByteArray) : ByteArray := Classical.choose (bodyEx k c r)
theorem bodyOf_eq (k : Nat) (c r : ByteArray) : bodyOf k c r = (((numOf k ++ (⟨#[32]⟩ : ByteArray)) ++ c) ++ (⟨#[64]⟩ : ByteArray)) ++ r := Classical.choose_spec (bodyEx k c r)
theorem lineEx (k : Nat) (c r : ByteArray) : ∃ t : ByteArray, t = sealOf (bodyOf k c r) ++ (⟨#[10]⟩ : ByteArray) := ⟨_, rfl⟩
noncomputable def lineOf (k : Nat) (c r : ByteArray) : ByteArray := Classical.choose (lineEx k c r)
theorem lineOf_eq (k : Nat) (c r : ByteArray) : lineOf k c r = sealOf (bodyOf k c r) ++ (⟨#[10]⟩ : ByteArray) := Classical.choose_spec (lineEx k c r)
theorem L_body (k : Nat) (c r : ByteArray) : L (bodyOf k c r) = L (numOf k) ++ 32 :: (L c ++ 64 :: L r) := by
  rw [bodyOf_eq]
  simp only [L_append, L_one, List.append_assoc, List.singleton_append, List.cons_append, List.nil_append]
theorem L_seal (s : ByteArray) : L (sealOf s) = L s ++ 35 :: L (numOf (sumOf s)) := by
  rw [sealOf_eq]
  simp only [L_append, L_one, List.append_assoc, List.singleton_append, List.cons_append, List.nil_append]
theorem L_line (k : Nat) (c r : ByteArray) : L (lineOf k c r) = L (sealOf (bodyOf k c r)) ++ [10] := by
  rw [lineOf_eq]
  rw [L_append, L_one]
theorem body_free {k : Nat} {c r : ByteArray} (h : RecordOk c r) : (35 : UInt8) ∉ L (bodyOf k c r) ∧ (10 : UInt8) ∉ L (bodyOf k c r) := by
  have h1 := num_free k
  have h2 := plain_free h.2.1
  have h3 := plain_free h.2.2.1
  rw [L_body]
  constructor
  · intro hm
    rcases List.mem_append.1 hm with hm | hm
    · exact h1.1 hm
    · rcases List.mem_cons.1 hm with hm | hm
      · exact absurd hm (by decide)
      · rcases List.mem_append.1 hm with hm | hm
        · exact h2.1 hm
        · rcases List.mem_cons.1 hm with hm | hm
          · exact absurd hm (by decide)
          · exact h3.1 hm
  · intro hm
    rcases List.mem_append.1 hm with hm | hm
    · exact h1.2.1 hm
    · rcases List.mem_cons.1 hm with hm | hm
      · exact absurd hm (by decide)
      · rcases List.mem_append.1 hm with hm | hm
        · exact h2.2 hm
        · rcases List.mem_cons.1 hm with hm | hm
          · exact absurd hm (by decide)
          · exact h3.2 hm
theorem seal_free {k : Nat} {c r : ByteArray} (h : RecordOk c r) : (10 : UInt8) ∉ L (sealOf (bodyOf k c r)) := by
  rw [L_seal]
  intro hm
  rcases List.mem_append.1 hm with hm | hm
  · exact (body_free h).2 hm
  · rcases List.mem_cons.1 hm with hm | hm
    · exact absurd hm (by decide)
    · exact (num_free _).2.1 hm
theorem com_free {c r : ByteArray} (h : RecordOk c r) : (64 : UInt8) ∉ L c := h.2.2.2
theorem com_size {c r : ByteArray} (h : RecordOk c r) : c.size ≤ 160 ∧ r.size ≤ 200 := ⟨by have := h.2.1.2; omega, by have := h.2.2.1.2; omega⟩
theorem body_size {k : Nat} {c r : ByteArray} (hk : k ≤ 1048576) (h : RecordOk c r) : (bodyOf k c r).size ≤ 400 := by
  have h1 := numOf_size k hk
  have h2 := com_size h
  rw [L_size] at h1 h2 ⊢
  rw [L_size r] at h2
  rw [L_body]
  simp only [List.length_append, List.length_cons]
  omega
theorem seal_size (s : ByteArray) (hs : s.size ≤ 1048576) : (sealOf s).size ≤ s.size + 22 := by
  have h1 := numOf_size (sumOf s) (by have := sumOf_lt s hs; omega)
  rw [L_size] at h1
  rw [L_size, L_size s, L_seal]
  simp only [List.length_append, List.length_cons]
  omega
/-- What a line tells: the text ahead of the sum. -/
theorem of_line {s : ByteArray} {k : Nat} {c r : ByteArray} (h : RecordOk c r) (e : L s ++ [10] = L (lineOf k c r)) : L s = L (sealOf (bodyOf k c r)) ∧ upTo 35 (L s) = L (numOf k) ++ 32 :: (L c ++ 64 :: L r) := by
  rw [L_line] at e
  have e1 := List.append_cancel_right e
  refine ⟨e1, ?_⟩
  rw [e1, L_seal, upTo_join (body_free h).1, L_body]
theorem line_inj {k : Nat} {c r c' r' : ByteArray} (h : RecordOk c r) (h' : RecordOk c' r') (e : L (numOf k) ++ 32 :: (L c ++ 64 :: L r) = L (numOf k) ++ 32 :: (L c' ++ 64 :: L r')) : c = c' ∧ r = r' := by
  have e1 := (List.cons.inj (List.append_cancel_left e)).2
  have e2 := congrArg (upTo 64) e1
  rw [upTo_join (com_free h), upTo_join (com_free h')] at e2
  rw [e2] at e1
  exact ⟨L_inj e2, L_inj (List.cons.inj (List.append_cancel_left e1)).2⟩
theorem specLine_ev {k : Nat} {c r : ByteArray} (hk : k ≤ 1048576) (h : RecordOk c r) : Ev (fun j => spec_l12Line.f j k c r) (lineOf k c r) := by
  have h1 := numOf_size k hk
  have h2 := com_size h
  have h3 := body_size hk h
  have h4 := seal_size _ (show (bodyOf k c r).size ≤ 1048576 by omega)
  unfold spec_l12Line.f
  rw [lineOf_eq]
  refine Ev.bind (num_ev k hk) ?_
  simp only [if_pos (show (numOf k).size + 1 ≤ 9223372036854775807 by omega), if_pos (show (numOf k).size + 1 + c.size ≤ 9223372036854775807 by omega), if_pos (show (numOf k).size + 1 + c.size + 1 ≤ 9223372036854775807 by omega), if_pos (show (numOf k).size + 1 + c.size + 1 + r.size ≤ 9223372036854775807 by omega)]
  rw [← bodyOf_eq]
  refine Ev.bind (specSeal_ev (bodyOf k c r) (by omega)) ?_
  simp only [if_pos (show (sealOf (bodyOf k c r)).size + 1 ≤ 9223372036854775807 by omega)]
  exact Ev.now _
theorem append_ev (s : ByteArray) (hs : s.size ≤ 1048576) : ∃ a b, Ev (fun k => impl_AppendChecksum.f k s) (a, b) ∧ a.size ≤ 4000 ∧ (b = true → a = sealOf s) ∧ (s.size ≤ 3000 → (35 : UInt8) ∉ L s → b = true) := by
  have hj1 : Ev (fun k => impl_AppendChecksum.j0 k s true) ((⟨#[]⟩ : ByteArray), false) := by
    refine Ev.step (fun k => by rw [impl_AppendChecksum.j0]) ?_
    simp only [if_true]
    exact Ev.now _
  unfold impl_AppendChecksum.f
  by_cases g : (s.size : Int) > 4000
  · simp only [if_pos g]
    exact ⟨_, _, hj1, Nat.zero_le _, fun h => (by cases h), fun h => absurd h (by omega)⟩
  · simp only [if_neg g, contains_iff, Option.bind_some]
    by_cases g1 : Has s 35
    · simp only [decide_eq_true g1]
      exact ⟨_, _, hj1, Nat.zero_le _, fun h => (by cases h), fun _ h => absurd g1 h⟩
    · simp only [decide_eq_false g1]
      have h1 := sumOf_lt s hs
      have h2 := numOf_size (sumOf s) (by omega)
      by_cases g2 : ((s.size : Int) + 1 + ((numOf (sumOf s)).size : Int)) > 4000
      · refine ⟨⟨#[]⟩, false, Ev.step (fun k => by rw [impl_AppendChecksum.j0]) ?_, Nat.zero_le _, fun h => (by cases h), fun h => absurd h (by omega)⟩
        simp only [Bool.false_eq_true, if_false, if_pos (show s.size + 1 ≤ 9223372036854775807 by omega)]
        refine Ev.bind (implSum_ev s hs) ?_
        simp only [itoa_num (sumOf s) (by omega), Option.bind_some, if_pos (show s.size + 1 + (numOf (sumOf s)).size ≤ 9223372036854775807 by omega), if_pos g2]
        exact Ev.now _
      · refine ⟨sealOf s, true, Ev.step (fun k => by rw [impl_AppendChecksum.j0]) ?_, ?_, fun _ => rfl, fun _ _ => rfl⟩
        · simp only [Bool.false_eq_true, if_false, if_pos (show s.size + 1 ≤ 9223372036854775807 by omega)]
          refine Ev.bind (implSum_ev s hs) ?_
          simp only [itoa_num (sumOf s) (by omega), Option.bind_some, if_pos (show s.size + 1 + (numOf (sumOf s)).size ≤ 9223372036854775807 by omega), if_neg g2]
          rw [sealOf_eq]
          exact Ev.now _
        · rw [L_size, L_seal]
          rw [L_size, L_size] at g2
          simp only [List.length_append, List.length_cons]
          omega
theorem encode_ev (k : Int) (c r : ByteArray) (hc : c.size ≤ 1048576) (hr : r.size ≤ 1048576) :
    Ev (fun j => impl_EncodeRecord.f j k c r) (if 0 ≤ k ∧ k ≤ 59 ∧ RecordOk c r then (lineOf k.toNat c r, true) else ((⟨#[]⟩ : ByteArray), false)) := by
  have hj1 : Ev (fun j => impl_EncodeRecord.j0 j k true c r) ((⟨#[]⟩ : ByteArray), false) := by
    refine Ev.step (fun j => by rw [impl_EncodeRecord.j0]) ?_
    simp only [if_true]
    exact Ev.now _
  unfold impl_EncodeRecord.f
  simp only [between_iff, Option.bind_some]
  by_cases g : 0 ≤ k ∧ k ≤ 59
  · simp only [decide_eq_true g, if_true]
    refine Ev.bind (implRecord_ev c r hc hr) ?_
    by_cases g1 : RecordOk c r
    · rw [if_pos ⟨g.1, g.2, g1⟩]
      obtain ⟨k, rfl⟩ := Int.eq_ofNat_of_zero_le g.1
      have hk : k ≤ 1048576 := by omega
      have h1 := numOf_size k hk
      have h2 := com_size g1
      have h3 := body_size hk g1
      obtain ⟨a, b, h4, h5, h6, h7⟩ := append_ev (bodyOf k c r) (by omega)
      have hb : b = true := h7 (by omega) (body_free g1).1
      have ha := h6 hb
      subst hb ha
      simp only [decide_eq_true g1, Bool.not_true]
      refine Ev.step (fun j => by rw [impl_EncodeRecord.j0]) ?_
      simp only [Bool.false_eq_true, if_false, itoa_num k hk, Option.bind_some, if_pos (show (numOf k).size + 1 ≤ 9223372036854775807 by omega), if_pos (show (numOf k).size + 1 + c.size ≤ 9223372036854775807 by omega), if_pos (show (numOf k).size + 1 + c.size + 1 ≤ 9223372036854775807 by omega), if_pos (show (numOf k).size + 1 + c.size + 1 + r.size ≤ 9223372036854775807 by omega)]
      rw [bodyOf_eq] at h4
      refine Ev.bind h4 ?_
      rw [← bodyOf_eq, lineOf_eq]
      simp only [if_pos (show (sealOf (bodyOf k c r)).size + 1 ≤ 9223372036854775807 by omega), Int.toNat_natCast]
      exact Ev.now _
    · rw [if_neg fun x => g1 x.2.2]
      simp only [decide_eq_false g1, Bool.not_false]
      exact hj1
  · rw [if_neg fun x => g ⟨x.1, x.2.1⟩]
    simp only [decide_eq_false g, Bool.false_eq_true, if_false]
    exact hj1
/-! ### one line, decoded by both -/
theorem decode_tail (s t N ah : ByteArray) (k : Nat) (hs : s.size ≤ 1048576) (hk : k ≤ 1048576) (htx : t.size ≤ s.size) (hah : L ah = L N ++ [32]) (hahs : ah.size = N.size + 1) (g : ¬ (t.size : Int) < (N.size : Int) + 1)
    (g1 : L (t.extract 0 (N.size + 1)) = L ah) (hwhy0 : ∀ c' r', RecordOk c' r' → L s ++ [10] = L (lineOf k c' r') → L t = L N ++ 32 :: (L c' ++ 64 :: L r')) :
    ∃ c r b, Ev (fun j => spec_l12Decode.j0 j s k ah t false) (c, r, b) ∧ (b = true → RecordOk c r ∧ L s ++ [10] = L (lineOf k c r)) ∧ (∀ c' r', RecordOk c' r' → L s ++ [10] = L (lineOf k c' r') → b = true ∧ c = c' ∧ r = r') := by
  have hle : ah.size ≤ t.size := by omega
  have hrest : L (t.extract ah.size t.size) = (L t).drop (N.size + 1) := by rw [hahs, L_tail]
  have hrs : (t.extract ah.size t.size).size = t.size - ah.size := by rw [L_size, hrest, List.length_drop, hahs, L_size t]
  have ht : L t = L N ++ 32 :: L (t.extract ah.size t.size) := by
    rw [hrest]
    rw [L_head, hah] at g1
    conv => lhs; rw [← List.take_append_drop (N.size + 1) (L t), g1]
    simp
  have hrz : (t.extract ah.size t.size).size ≤ 1048576 := by rw [hrs]; exact Nat.le_trans (Nat.sub_le _ _) (Nat.le_trans htx hs)
  have hwhy : ∀ c' r', RecordOk c' r' → L s ++ [10] = L (lineOf k c' r') → L (t.extract ah.size t.size) = L c' ++ 64 :: L r' := by
    intro c' r' h e
    have h2 := hwhy0 c' r' h e
    rw [ht] at h2
    exact (List.cons.inj (List.append_cancel_left h2)).2
  generalize hre : t.extract ah.size t.size = rest at hrest hrs ht hrz hwhy
  clear hwhy0 ht hrest g1 hah g hahs
  obtain ⟨m, hm, hm0, hm1, hm2⟩ := split_ev rest 64 hrz
  generalize hmq : rdOf ByteArray.empty m 0 = q at hm1
  have hms : q.size = (upTo 64 (L rest)).length := by rw [L_size, hm1]
  have a1 : (0 : Int) < (m.length : Int) := by omega
  have a2 : (ah.size : Int) ≤ (t.size : Int) := by omega
  have a3 : (0 : Int) ≤ (ah.size : Int) := by omega
  have a4 : s.size + 1 ≤ 9223372036854775807 := by omega
  by_cases g2 : (64 : UInt8) ∈ L rest
  · obtain ⟨b0, hb0⟩ := upTo_split g2
    have hlt := upTo_lt g2
    rw [← L_size, ← hms] at hlt
    have hw : wrap64 ((q.size : Int) + 1) = ((q.size + 1 : Nat) : Int) := by rw [wrap_of (by omega) (by omega)]; rfl
    have hrep : L (rest.extract (q.size + 1) rest.size) = b0 := by
      rw [L_tail, hms]
      conv => lhs; rw [hb0]
      rw [upTo_join (upTo_free _ _)]
      simp [List.drop_append]
    have heq : L rest = L q ++ 64 :: L (rest.extract (q.size + 1) rest.size) := by rw [hrep, hm1]; exact hb0
    have hcs : q.size ≤ 1048576 := Nat.le_trans (Nat.le_of_lt hlt) hrz
    have hys : (rest.extract (q.size + 1) rest.size).size ≤ 1048576 := by rw [L_size, L_tail, List.length_drop, ← L_size]; exact Nat.le_trans (Nat.sub_le _ _) hrz
    have b1 : ¬ (q.size : Int) = (rest.size : Int) := by omega
    have b2 : (0 : Int) ≤ ((q.size + 1 : Nat) : Int) := by omega
    have b3 : ((q.size + 1 : Nat) : Int) ≤ (rest.size : Int) := by omega
    generalize hy : rest.extract (q.size + 1) rest.size = y at hrep heq hys
    have go : ∃ b, Ev (fun j => spec_l12Decode.j0 j s k ah t false) (q, y, b) ∧ (b = true → RecordOk q y ∧ L s ++ [10] = L (lineOf k q y)) ∧ (RecordOk q y → L s ++ [10] = L (lineOf k q y) → b = true) := by
      by_cases g3 : RecordOk q y
      · refine ⟨((lineOf k q y).toList == (s ++ (⟨#[10]⟩ : ByteArray)).toList), Ev.step (fun j => by rw [spec_l12Decode.j0]) ?_, ?_, ?_⟩
        · simp only [Bool.false_eq_true, if_false, if_pos a3, if_pos a2, hre, ← hrs]
          refine Ev.bind hm ?_
          simp only [hmq, if_pos a1, if_neg b1, hw, Int.toNat_natCast, if_pos b2, if_pos b3, hy]
          refine Ev.bind (specRecord_ev _ _ hcs hys) ?_
          simp only [decide_eq_true g3, if_true]
          refine Ev.bind (specLine_ev hk g3) ?_
          simp only [if_pos a4]
          exact Ev.now _
        · intro h
          have h := beq_iff_eq.1 h
          rw [L_toList, L_toList, L_append, L_one] at h
          exact ⟨g3, h.symm⟩
        · intro _ h
          rw [beq_iff_eq, L_toList, L_toList, L_append, L_one]
          exact h.symm
      · refine ⟨false, Ev.step (fun j => by rw [spec_l12Decode.j0]) ?_, fun h => (by cases h), fun h => absurd h g3⟩
        simp only [Bool.false_eq_true, if_false, if_pos a3, if_pos a2, hre, ← hrs]
        refine Ev.bind hm ?_
        simp only [hmq, if_pos a1, if_neg b1, hw, Int.toNat_natCast, if_pos b2, if_pos b3, hy]
        refine Ev.bind (specRecord_ev _ _ hcs hys) ?_
        simp only [decide_eq_false g3, Bool.false_eq_true, if_false]
        exact Ev.now _
    obtain ⟨b, h1, h2, h3⟩ := go
    refine ⟨_, _, b, h1, h2, fun c' r' h e => ?_⟩
    have h4 := hwhy c' r' h e
    have e5 : q = c' := L_inj (by rw [hm1, h4, upTo_join (com_free h)])
    have e6 : y = r' := by
      rw [heq, e5] at h4
      exact L_inj (List.cons.inj (List.append_cancel_left h4)).2
    subst e5 e6
    exact ⟨h3 h e, rfl, rfl⟩
  · refine ⟨⟨#[]⟩, ⟨#[]⟩, false, Ev.step (fun j => by rw [spec_l12Decode.j0]) ?_, fun h => (by cases h), fun c' r' h e => absurd ?_ g2⟩
    · have e7 : (q.size : Int) = (rest.size : Int) := by rw [hms, upTo_none g2, ← L_size]
      simp only [Bool.false_eq_true, if_false, if_pos a3, if_pos a2, hre, ← hrs]
      refine Ev.bind hm ?_
      simp only [hmq, if_pos a1, if_pos e7]
      exact Ev.now _
    · rw [hwhy c' r' h e]; simp
theorem decode_fail (s t ah : ByteArray) (k : Int) : Ev (fun j => spec_l12Decode.j0 j s k ah t true) ((⟨#[]⟩ : ByteArray), (⟨#[]⟩ : ByteArray), false) := by
  refine Ev.step (fun j => by rw [spec_l12Decode.j0]) ?_
  simp only [if_true]
  exact Ev.now _
theorem decode_ev (s : ByteArray) (k : Nat) (hs : s.size ≤ 1048576) (hk : k ≤ 1048576) : ∃ c r b, Ev (fun j => spec_l12Decode.f j s k) (c, r, b) ∧
    (b = true → RecordOk c r ∧ L s ++ [10] = L (lineOf k c r)) ∧ (∀ c' r', RecordOk c' r' → L s ++ [10] = L (lineOf k c' r') → b = true ∧ c = c' ∧ r = r') := by
  obtain ⟨l, hl, hl0, hl1, _⟩ := split_ev s 35 hs
  have hnum := num_ev k hk
  have hn := numOf_size k hk
  have hwhy0 : ∀ c' r', RecordOk c' r' → L s ++ [10] = L (lineOf k c' r') → upTo 35 (L s) = L (numOf k) ++ 32 :: (L c' ++ 64 :: L r') := fun c' r' h e => (of_line h e).2
  generalize numOf k = N at hnum hn hwhy0
  rw [← hl1] at hwhy0
  have htx : (rdOf ByteArray.empty l 0).size ≤ s.size := by rw [L_size, L_size, hl1]; exact upTo_le _ _
  have hah : L (N ++ (⟨#[32]⟩ : ByteArray)) = L N ++ [32] := by rw [L_append, L_one]
  have hahs : (N ++ (⟨#[32]⟩ : ByteArray)).size = N.size + 1 := by rw [L_size, hah, List.length_append, ← L_size]; rfl
  have a1 : N.size + 1 ≤ 9223372036854775807 := by omega
  have a2 : (0 : Int) < (l.length : Int) := by omega
  have a3 : (0 : Int) ≤ (N.size : Int) + 1 := by omega
  have hq : (((N.size : Int) + 1) : Int).toNat = N.size + 1 := by omega
  unfold spec_l12Decode.f
  generalize htt : rdOf ByteArray.empty l 0 = t at hl1 htx hwhy0
  have r3 : ¬ (t.size : Int) < (N.size : Int) + 1 → (N.size : Int) + 1 ≤ (t.size : Int) := fun h => by omega
  by_cases g : (t.size : Int) < (N.size : Int) + 1
  · refine ⟨⟨#[]⟩, ⟨#[]⟩, false, Ev.bind hnum ?_, fun h => (by cases h), fun c' r' h e => ?_⟩
    · simp only [if_pos a1]
      refine Ev.bind hl ?_
      simp only [htt, if_pos a2, if_pos g]
      exact decode_fail s t _ k
    · have h3 := congrArg List.length (hwhy0 c' r' h e)
      rw [← L_size] at h3
      simp only [List.length_append, List.length_cons] at h3
      rw [← L_size] at h3
      omega
  · by_cases g1 : L (t.extract 0 (N.size + 1)) = L (N ++ (⟨#[32]⟩ : ByteArray))
    · have e1 : ((t.extract 0 (((N.size : Int) + 1) : Int).toNat).toList != (N ++ (⟨#[32]⟩ : ByteArray)).toList) = false := by
        rw [hq, L_toList, L_toList, g1]; simp
      obtain ⟨c, r, b, h1, h2, h3⟩ := decode_tail s t N _ k hs hk htx hah hahs g g1 hwhy0
      refine ⟨c, r, b, Ev.bind hnum ?_, h2, h3⟩
      simp only [if_pos a1]
      refine Ev.bind hl ?_
      simp only [htt, if_pos a2, if_neg g, if_pos a3, if_pos (r3 g), e1]
      exact h1
    · have e1 : ((t.extract 0 (((N.size : Int) + 1) : Int).toNat).toList != (N ++ (⟨#[32]⟩ : ByteArray)).toList) = true := by
        rw [hq, L_toList, L_toList]; simpa using g1
      refine ⟨⟨#[]⟩, ⟨#[]⟩, false, Ev.bind hnum ?_, fun h => (by cases h), fun c' r' h e => absurd ?_ g1⟩
      · simp only [if_pos a1]
        refine Ev.bind hl ?_
        simp only [htt, if_pos a2, if_neg g, if_pos a3, if_pos (r3 g), e1]
        exact decode_fail s t _ k
      · rw [L_head, hah, hwhy0 c' r' h e]
        have h5 : N.size + 1 = (L N ++ [32]).length := by rw [List.length_append, ← L_size]; rfl
        have h6 : L N ++ 32 :: (L c' ++ 64 :: L r') = (L N ++ [32]) ++ (L c' ++ 64 :: L r') := by simp
        rw [h6, h5, List.take_append_of_le_length (Nat.le_refl _), List.take_length]
theorem verify_ev (s : ByteArray) (hs : s.size ≤ 1048576) : ∃ t b, Ev (fun k => impl_VerifyChecksum.f k s) (t, b) ∧ t.size ≤ s.size ∧ ∀ u, (35 : UInt8) ∉ L u → u.size ≤ 3000 → L s = L (sealOf u) → t = u := by
  unfold impl_VerifyChecksum.f
  obtain ⟨a, b, z, h1, h2, h3, h4⟩ := cut_any s 35 hs
  simp only [h1, Option.bind_some]
  have has : a.size ≤ s.size := by rw [L_size, L_size, h2]; exact upTo_le _ _
  obtain ⟨x, y, h5, h6, h7, h8⟩ := append_ev a (by omega)
  by_cases g : y = true
  · by_cases g1 : x.toList = s.toList
    · refine ⟨a, true, Ev.bind h5 ?_, has, fun u h e1 e => (h4 u _ (e.trans (L_seal u)) h).1⟩
      simp only [if_pos g, if_pos g1]
      exact Ev.now _
    · refine ⟨⟨#[]⟩, false, Ev.bind h5 ?_, Nat.zero_le _, fun u h e1 e => absurd ?_ g1⟩
      · simp only [if_pos g, if_neg g1]
        exact Ev.now _
      · have := (h4 u _ (e.trans (L_seal u)) h).1
        subst this
        rw [h7 g, L_toList, L_toList]; exact e.symm
  · refine ⟨⟨#[]⟩, false, Ev.bind h5 ?_, Nat.zero_le _, fun u h e1 e => absurd ?_ g⟩
    · simp only [if_neg g]
      exact Ev.now _
    · have := (h4 u _ (e.trans (L_seal u)) h).1
      subst this
      exact h8 e1 h
/-! ### what a text's begin reads as -/
def CanRead (k : Nat) (w : List UInt8) (c r : ByteArray) (v : List UInt8) : Prop := k < 60 ∧ RecordOk c r ∧ w = L (lineOf k c r) ++ v
theorem CanRead.upTo {k : Nat} {w v : List UInt8} {c r : ByteArray} (h : CanRead k w c r v) : upTo 10 w = L (sealOf (bodyOf k c r)) ∧ w = L (sealOf (bodyOf k c r)) ++ 10 :: v := by
  have e : w = L (sealOf (bodyOf k c r)) ++ 10 :: v := by rw [h.2.2, L_line, List.append_assoc]; rfl
  refine ⟨?_, e⟩
  rw [e, upTo_join (seal_free h.2.1)]
theorem CanRead.unique {k : Nat} {w v v' : List UInt8} {c r c' r' : ByteArray} (h : CanRead k w c r v) (h' : CanRead k w c' r' v') : c = c' ∧ r = r' ∧ v = v' := by
  have e1 := h.upTo.1.symm.trans h'.upTo.1
  have e2 := congrArg (Go.Proofs.YtklolnaonampeaaDoor.Pure.upTo 35) e1
  rw [L_seal, L_seal, upTo_join (body_free h.2.1).1, upTo_join (body_free h'.2.1).1, L_body, L_body] at e2
  obtain ⟨rfl, rfl⟩ := line_inj h.2.1 h'.2.1 e2
  exact ⟨rfl, rfl, List.append_cancel_left (h.2.2.symm.trans h'.2.2)⟩
inductive Reads : Nat → List UInt8 → List S27 → List UInt8 → Prop
  | stop {k : Nat} {w : List UInt8} : (∀ c r v, ¬ CanRead k w c r v) → Reads k w [] w
  | step {k : Nat} {w v rest : List UInt8} {c r : ByteArray} {out : List S27} : CanRead k w c r v → Reads (k + 1) v out rest → Reads k w ((⟨c, r⟩ : S27) :: out) rest
theorem Reads.total (n : Nat) : ∀ (k : Nat) (w : List UInt8), w.length ≤ n → ∃ out rest, Reads k w out rest := by
  induction n with
  | zero =>
    intro k w hw
    refine ⟨[], w, .stop fun c r v h => ?_⟩
    have := congrArg List.length h.upTo.2
    simp only [List.length_append, List.length_cons] at this
    omega
  | succ n ih =>
    intro k w hw
    by_cases g : ∃ c r v, CanRead k w c r v
    · obtain ⟨c, r, v, h⟩ := g
      have := congrArg List.length h.upTo.2
      simp only [List.length_append, List.length_cons] at this
      obtain ⟨out, rest, h2⟩ := ih (k + 1) v (by omega)
      exact ⟨_, _, .step h h2⟩
    · exact ⟨[], w, .stop fun c r v h => g ⟨c, r, v, h⟩⟩
theorem Reads.unique {k : Nat} {w : List UInt8} {out out' : List S27} {rest rest' : List UInt8} (h : Reads k w out rest) (h' : Reads k w out' rest') : out = out' ∧ rest = rest' := by
  induction h generalizing out' with
  | stop hn =>
    cases h' with
    | stop => exact ⟨rfl, rfl⟩
    | step hc _ => exact absurd hc (hn _ _ _)
  | step hc _ ih =>
    cases h' with
    | stop hn => exact absurd hc (hn _ _ _)
    | step hc' h2 =>
      obtain ⟨rfl, rfl, rfl⟩ := hc.unique hc'
      obtain ⟨rfl, rfl⟩ := ih h2
      exact ⟨rfl, rfl⟩
theorem Reads.le {k : Nat} {w : List UInt8} {out : List S27} {rest : List UInt8} (h : Reads k w out rest) : rest.length ≤ w.length := by
  induction h with
  | stop => exact Nat.le_refl _
  | step hc _ ih =>
    have := congrArg List.length hc.2.2
    simp only [List.length_append] at this
    omega
theorem specOpen_loop (s : ByteArray) (hs : s.size ≤ 1048576) {k : Nat} {w : List UInt8} {out : List S27} {rest : List UInt8} (h : Reads k w out rest) :
    ∀ (a : Nat) (acc : List S27), w = (L s).drop a → a ≤ s.size → acc.length = k → k ≤ 60 → Ev (fun j => spec_l12Open.l0 j s acc a) (acc ++ out, ((s.size - rest.length : Nat) : Int)) := by
  have hstop : ∀ (a : Nat) (acc : List S27), Ev (fun j => spec_l12Open.j1 j s acc a false) (acc, (a : Int)) := by
    intro a acc
    refine Ev.step (fun j => by rw [spec_l12Open.j1]) ?_
    simp only [Bool.false_eq_true, if_false]
    exact Ev.now _
  induction h with
  | @stop k w hn =>
    intro a acc hw ha hk hk60
    have hwl : w.length = s.size - a := by rw [hw, List.length_drop, ← L_size]
    have e : s.size - w.length = a := by omega
    rw [List.append_nil, e]
    refine Ev.step (fun j => by rw [spec_l12Open.l0]) ?_
    by_cases g : (a : Int) < (s.size : Int)
    · simp only [if_pos g]
      by_cases g1 : acc.length < 60
      · simp only [decide_eq_true (show ((acc.length : Nat) : Int) < 60 by omega)]
        obtain ⟨u, hu⟩ : ∃ u, u = s.extract a s.size := ⟨_, rfl⟩
        have ht : L u = w := by rw [hu, L_tail, hw]
        have hwz : w.length ≤ 1048576 := by omega
        have hts : u.size ≤ 1048576 := by rw [L_size, ht]; exact hwz
        obtain ⟨l, hl, hl0, hl1, hl2⟩ := split_ev u 10 hts
        rw [ht] at hl1 hl2
        obtain ⟨q, hqe⟩ : ∃ q, q = rdOf ByteArray.empty l 0 := ⟨_, rfl⟩
        rw [← hqe] at hl1
        have hq : q.size ≤ 1048576 := by rw [L_size, hl1]; exact Nat.le_trans (upTo_le _ _) hwz
        obtain ⟨c, r, b, hd, hd1, _⟩ := decode_ev q k hq (by omega)
        refine Ev.step (fun j => by rw [spec_l12Open.j1]) ?_
        simp only [if_true, if_pos (show (0 : Int) ≤ (a : Int) by omega), if_pos (show (a : Int) ≤ (s.size : Int) by omega), Int.toNat_natCast, ← hu]
        refine Ev.bind hl ?_
        simp only [if_pos (show (0 : Int) < (l.length : Int) by omega), hk, ← hqe]
        refine Ev.bind hd ?_
        by_cases g2 : l.length < 2
        · simp only [if_pos (show (l.length : Int) < 2 by omega)]
          exact Ev.now _
        · simp only [if_neg (show ¬ (l.length : Int) < 2 by omega)]
          have hb : b = false := by
            cases b with
            | false => rfl
            | true =>
              obtain ⟨h1, h2⟩ := hd1 rfl
              have hin : (10 : UInt8) ∈ w := Classical.byContradiction fun x => g2 (hl2.2 x)
              obtain ⟨v, hv⟩ := upTo_split hin
              rw [hl1] at h2
              refine absurd ⟨by omega, h1, ?_⟩ (hn c r v)
              rw [← h2, List.append_assoc]; exact hv
          subst hb
          simp only [Bool.false_eq_true, if_false]
          exact Ev.now _
      · simp only [decide_eq_false (show ¬ ((acc.length : Nat) : Int) < 60 by omega)]
        exact hstop a acc
    · simp only [if_neg g]
      exact hstop a acc
  | @step k w v rest c r out hc _ ih =>
    intro a acc hw ha hk hk60
    have hwl : w.length = s.size - a := by rw [hw, List.length_drop, ← L_size]
    have hu := hc.upTo
    have hlen := congrArg List.length hu.2
    simp only [List.length_append, List.length_cons] at hlen
    rw [← L_size] at hlen
    have hk1 := hc.1
    obtain ⟨u, hue⟩ : ∃ u, u = s.extract a s.size := ⟨_, rfl⟩
    have ht : L u = w := by rw [hue, L_tail, hw]
    have hwz : w.length ≤ 1048576 := by omega
    have hts : u.size ≤ 1048576 := by rw [L_size, ht]; exact hwz
    obtain ⟨l, hl, hl0, hl1, hl2⟩ := split_ev u 10 hts
    rw [ht] at hl1 hl2
    obtain ⟨q, hqe⟩ : ∃ q, q = rdOf ByteArray.empty l 0 := ⟨_, rfl⟩
    rw [← hqe] at hl1
    have hqs : q.size = (sealOf (bodyOf k c r)).size := by rw [L_size, hl1, hu.1, ← L_size]
    rw [← hqs] at hlen
    have hq : q.size ≤ 1048576 := by omega
    obtain ⟨c', r', b, hd, _, hd2⟩ := decode_ev q k hq (by omega)
    obtain ⟨rfl, rfl, rfl⟩ := hd2 c r hc.2.1 (by rw [hl1, hu.1, L_line])
    have hl3 : ¬ l.length < 2 := fun x => hl2.1 x (by rw [hu.2]; simp)
    have hw1 : a + q.size ≤ 140737488351232 := by omega
    refine Ev.step (fun j => by rw [spec_l12Open.l0]) ?_
    simp only [if_pos (show (a : Int) < (s.size : Int) by omega), decide_eq_true (show ((acc.length : Nat) : Int) < 60 by omega)]
    refine Ev.step (fun j => by rw [spec_l12Open.j1]) ?_
    simp only [if_true, if_pos (show (0 : Int) ≤ (a : Int) by omega), if_pos (show (a : Int) ≤ (s.size : Int) by omega), Int.toNat_natCast, ← hue]
    refine Ev.bind hl ?_
    simp only [if_pos (show (0 : Int) < (l.length : Int) by omega), hk, ← hqe]
    refine Ev.bind hd ?_
    simp only [if_neg (show ¬ (l.length : Int) < 2 by omega), if_true, if_pos (show k < 4398046511104 by omega), wrap_add hw1, wrap_one hw1]
    have e2 : acc ++ (⟨c', r'⟩ : S27) :: out = (acc ++ [(⟨c', r'⟩ : S27)]) ++ out := by simp
    rw [e2]
    refine ih _ _ ?_ (by omega) (by simp [hk]) (by omega)
    have e3 : (L s).drop (a + q.size + 1) = w.drop (q.size + 1) := by rw [hw, List.drop_drop]; congr 1
    rw [e3]
    conv => rhs; rw [hu.2]
    rw [hqs, L_size]
    simp [List.drop_append]
theorem parse_ev (s : ByteArray) (k : Nat) (hs : s.size ≤ 1048576) (hk : k ≤ 1048576) : ∃ t z1 x y z2 c r z3, Ev (fun j => impl_VerifyChecksum.f j s) (t, z1) ∧ strings_Cut.f t ⟨#[32]⟩ = some (x, y, z2) ∧ strings_Cut.f y ⟨#[64]⟩ = some (c, r, z3) ∧ c.size ≤ 1048576 ∧ r.size ≤ 1048576 ∧
    ∀ c' r', RecordOk c' r' → L s = L (sealOf (bodyOf k c' r')) → c = c' ∧ r = r' := by
  obtain ⟨t, z1, h1, h2, h3⟩ := verify_ev s hs
  obtain ⟨x, y, z2, h4, h5, h6, h7⟩ := cut_any t 32 (by omega)
  obtain ⟨c, r, z3, h8, h9, h10, h11⟩ := cut_any y 64 (by omega)
  refine ⟨t, z1, x, y, z2, c, r, z3, h1, h4, h8, ?_, by omega, fun c' r' h e => ?_⟩
  · have := upTo_le 64 (L y)
    rw [← h9, ← L_size, ← L_size] at this
    omega
  · have e1 := h3 (bodyOf k c' r') (body_free h).1 (by have := body_size hk h; omega) e
    subst e1
    have e2 : L (bodyOf k c' r') = L (numOf k) ++ 32 :: L ((c' ++ (⟨#[64]⟩ : ByteArray)) ++ r') := by rw [L_body, L_append, L_append, L_one]; simp
    obtain ⟨_, rfl⟩ := h7 (numOf k) _ e2 (num_free k).2.2
    exact h11 c' r' (by rw [L_append, L_append, L_one]; simp) (com_free h)
theorem implRead_loop (s : ByteArray) (hs : s.size ≤ 1048576) {k : Nat} {w : List UInt8} {out : List S27} {rest : List UInt8} (h : Reads k w out rest) :
    ∀ (a : Nat) (acc : List S27), w = (L s).drop a → a ≤ s.size → acc.length = k → k ≤ 60 → Ev (fun j => impl_readRecords.l0 j s acc a) (acc ++ out, ((s.size - rest.length : Nat) : Int)) := by
  have hidx : ∀ (u : ByteArray), strings_IndexByte.f u 10 = some (if (10 : UInt8) ∈ L u then ((upTo 10 (L u)).length : Int) else -1) := fun u => by
    unfold strings_IndexByte.f
    rw [show (10 : Int).toNat.toUInt8 = (10 : UInt8) from rfl, indexByte_eq]
  induction h with
  | @stop k w hn =>
    intro a acc hw ha hk hk60
    have hwl : w.length = s.size - a := by rw [hw, List.length_drop, ← L_size]
    have e : s.size - w.length = a := by omega
    rw [List.append_nil, e]
    have ht : L (s.extract a s.size) = w := by rw [L_tail, hw]
    have hix := hidx (s.extract a s.size)
    rw [ht] at hix
    refine Ev.step (fun j => by rw [impl_readRecords.l0]) ?_
    simp only [if_pos (show (0 : Int) ≤ (a : Int) by omega), if_pos (show (a : Int) ≤ (s.size : Int) by omega), Int.toNat_natCast, hix, Option.bind_some]
    clear hix ht
    by_cases g : (10 : UInt8) ∈ w
    · have hlt := upTo_lt g
      obtain ⟨v, hv⟩ := upTo_split g
      generalize hn1 : (upTo 10 w).length = n at hlt
      have hw1 : a + n ≤ 140737488351232 := by omega
      obtain ⟨u, hue⟩ : ∃ u, u = s.extract a (a + n + 1) := ⟨_, rfl⟩
      have hl1 : L u = upTo 10 w ++ [10] := by
        rw [hue, L_extract, ← hw]
        conv => lhs; rw [hv]
        rw [show a + n + 1 - a = n + 1 by omega, ← hn1]
        rw [List.take_append, List.take_of_length_le (Nat.le_succ _)]
        simp
      obtain ⟨q, hqe⟩ : ∃ q, q = u.extract 0 n := ⟨_, rfl⟩
      have hl2 : L q = upTo 10 w := by
        rw [hqe, L_head, hl1, ← hn1, List.take_append_of_le_length (Nat.le_refl _), List.take_length]
      obtain ⟨t, z1, x, y, z2, c, r, z3, h1, h2, h3, h4, h5, h6⟩ := parse_ev q k (by rw [L_size, hl2, hn1]; omega) (by omega)
      simp only [if_pos g, if_neg (show ¬ (n : Int) < 0 by omega), wrap_add hw1, wrap_one hw1, if_pos (show (a : Int) ≤ ((a + n + 1 : Nat) : Int) by omega), if_pos (show ((a + n + 1 : Nat) : Int) ≤ (s.size : Int) by omega), if_pos (show (0 : Int) ≤ (n : Int) by omega), Int.toNat_natCast,
        if_pos (show (n : Int) ≤ ((a + n + 1 - a : Nat) : Int) by omega), ← hue, ← hqe]
      refine Ev.bind h1 ?_
      simp only [h2, h3, Option.bind_some]
      refine Ev.bind (encode_ev _ c r h4 h5) ?_
      by_cases g1 : 0 ≤ (acc.length : Int) ∧ (acc.length : Int) ≤ 59 ∧ RecordOk c r
      · simp only [if_pos g1, if_true, Int.toNat_natCast, L_toList, hl1]
        have hne : ¬ L (lineOf acc.length c r) = upTo 10 w ++ [10] := by
          intro e
          refine hn c r v ⟨by omega, g1.2.2, ?_⟩
          rw [← hk, e, List.append_assoc]; exact hv
        simp only [if_neg hne]
        exact Ev.now _
      · simp only [if_neg g1, Bool.false_eq_true, if_false]
        exact Ev.now _
    · simp only [if_neg g, if_pos (show (-1 : Int) < 0 by omega)]
      exact Ev.now _
  | @step k w v rest c r out hc _ ih =>
    intro a acc hw ha hk hk60
    have hwl : w.length = s.size - a := by rw [hw, List.length_drop, ← L_size]
    have hu := hc.upTo
    have hk1 := hc.1
    have ht : L (s.extract a s.size) = w := by rw [L_tail, hw]
    have g : (10 : UInt8) ∈ w := by rw [hu.2]; simp
    have hlt := upTo_lt g
    have hv : w = upTo 10 w ++ 10 :: v := by rw [hu.1]; exact hu.2
    have hix := hidx (s.extract a s.size)
    rw [ht] at hix
    refine Ev.step (fun j => by rw [impl_readRecords.l0]) ?_
    simp only [if_pos (show (0 : Int) ≤ (a : Int) by omega), if_pos (show (a : Int) ≤ (s.size : Int) by omega), Int.toNat_natCast, hix, Option.bind_some]
    clear hix ht
    generalize hn1 : (upTo 10 w).length = n at hlt
    have hw1 : a + n ≤ 140737488351232 := by omega
    obtain ⟨u, hue⟩ : ∃ u, u = s.extract a (a + n + 1) := ⟨_, rfl⟩
    have hl1 : L u = upTo 10 w ++ [10] := by
      rw [hue, L_extract, ← hw]
      conv => lhs; rw [hv]
      rw [show a + n + 1 - a = n + 1 by omega, ← hn1]
      rw [List.take_append, List.take_of_length_le (Nat.le_succ _)]
      simp
    obtain ⟨q, hqe⟩ : ∃ q, q = u.extract 0 n := ⟨_, rfl⟩
    have hl2 : L q = upTo 10 w := by
      rw [hqe, L_head, hl1, ← hn1, List.take_append_of_le_length (Nat.le_refl _), List.take_length]
    obtain ⟨t, z1, x, y, z2, c', r', z3, h1, h2, h3, h4, h5, h6⟩ := parse_ev q k (by rw [L_size, hl2, hn1]; omega) (by omega)
    obtain ⟨rfl, rfl⟩ := h6 c r hc.2.1 (by rw [hl2, hu.1])
    simp only [if_pos g, if_neg (show ¬ (n : Int) < 0 by omega), wrap_add hw1, wrap_one hw1, if_pos (show (a : Int) ≤ ((a + n + 1 : Nat) : Int) by omega), if_pos (show ((a + n + 1 : Nat) : Int) ≤ (s.size : Int) by omega), if_pos (show (0 : Int) ≤ (n : Int) by omega), Int.toNat_natCast,
      if_pos (show (n : Int) ≤ ((a + n + 1 - a : Nat) : Int) by omega), ← hue, ← hqe]
    refine Ev.bind h1 ?_
    simp only [h2, h3, Option.bind_some]
    refine Ev.bind (encode_ev _ c' r' h4 h5) ?_
    have g1 : 0 ≤ (acc.length : Int) ∧ (acc.length : Int) ≤ 59 ∧ RecordOk c' r' := ⟨by omega, by omega, hc.2.1⟩
    have heq : L (lineOf acc.length c' r') = upTo 10 w ++ [10] := by rw [hk, L_line, hu.1]
    simp only [if_pos g1, if_true, Int.toNat_natCast, L_toList, hl1, if_pos heq, if_pos (show acc.length < 4398046511104 by omega)]
    have e2 : acc ++ (⟨c', r'⟩ : S27) :: out = (acc ++ [(⟨c', r'⟩ : S27)]) ++ out := by simp
    rw [e2]
    refine ih _ _ ?_ (by omega) (by simp [hk]) (by omega)
    have e3 : (L s).drop (a + n + 1) = w.drop (n + 1) := by rw [hw, List.drop_drop]; congr 1
    rw [e3]
    conv => rhs; rw [hv]
    rw [← hn1]
    simp [List.drop_append]
theorem open_both (s : ByteArray) (hs : s.size ≤ 1048576) : ∃ out rest, Reads 0 (L s) out rest ∧ Ev (fun k => spec_l12Open.f k s) (out, ((s.size - rest.length : Nat) : Int)) ∧ Ev (fun k => impl_readRecords.f k s) (out, ((s.size - rest.length : Nat) : Int)) := by
  obtain ⟨out, rest, h⟩ := Reads.total _ 0 (L s) (Nat.le_refl _)
  refine ⟨out, rest, h, ?_, ?_⟩
  · unfold spec_l12Open.f
    have := specOpen_loop s hs h 0 [] (by simp) (Nat.zero_le _) rfl (by omega)
    simpa using this
  · unfold impl_readRecords.f
    have := implRead_loop s hs h 0 [] (by simp) (Nat.zero_le _) rfl (by omega)
    simpa using this
/-! ### logs -/
theorem size_join (a b : ByteArray) : (a ++ b).size = a.size + b.size := by rw [L_size, L_append, List.length_append, ← L_size, ← L_size]
def ValidLog (d p : ByteArray) (n : Int) : Prop := d.size + p.size ≤ 30000 ∧ (∃ all, Reads 0 (L (d ++ p)) all [] ∧ (all.length : Int) = n) ∧ ∃ o, Reads 0 (L d) o []
theorem rest_iff {z : Nat} {rest : List UInt8} (h : rest.length ≤ z) : ((z - rest.length : Nat) : Int) = (z : Int) ↔ rest = [] := by
  constructor
  · intro e
    by_cases g : rest = []
    · exact g
    · have := List.length_pos_iff.2 g
      omega
  · intro e; subst e; simp
theorem valid_iff {d p : ByteArray} {n : Int} {out out2 : List S27} {rest rest2 : List UInt8} (g : d.size + p.size ≤ 30000) (h1 : Reads 0 (L (d ++ p)) out rest) (h2 : Reads 0 (L d) out2 rest2) :
    ValidLog d p n ↔ rest = [] ∧ rest2 = [] ∧ (out.length : Int) = n := by
  constructor
  · rintro ⟨_, ⟨all, h3, h4⟩, o, h5⟩
    obtain ⟨rfl, rfl⟩ := h1.unique h3
    obtain ⟨rfl, rfl⟩ := h2.unique h5
    exact ⟨rfl, rfl, h4⟩
  · rintro ⟨rfl, rfl, h⟩
    exact ⟨g, ⟨out, h1, h⟩, out2, h2⟩
theorem specValid_ev (d p : ByteArray) (n : Int) (hd : d.size ≤ 1048576) (hp : p.size ≤ 1048576) : Ev (fun k => spec_l12Valid.f k d p n) (decide (ValidLog d p n)) := by
  unfold spec_l12Valid.f
  simp only [wrap_add (show d.size + p.size ≤ 140737488351232 by omega)]
  by_cases g : d.size + p.size ≤ 30000
  · simp only [if_neg (show ¬ ((d.size + p.size : Nat) : Int) > 30000 by omega), if_pos (show d.size + p.size ≤ 9223372036854775807 by omega)]
    obtain ⟨out, rest, h1, h2, _⟩ := open_both (d ++ p) (by rw [size_join]; omega)
    obtain ⟨out2, rest2, h3, h4, _⟩ := open_both d (by omega)
    have l1 := h1.le
    have l2 := h3.le
    rw [← L_size, size_join] at l1
    rw [← L_size] at l2
    rw [size_join] at h2
    have i1 := rest_iff l1
    have i2 := rest_iff l2
    have v := valid_iff (n := n) g h1 h3
    refine Ev.bind h2 (Ev.bind h4 ?_)
    by_cases c1 : rest = []
    · simp only [if_pos (i1.2 c1)]
      by_cases c2 : rest2 = []
      · simp only [if_pos (i2.2 c2)]
        have e : ((out.length : Int) == n) = decide (ValidLog d p n) := by
          by_cases c3 : (out.length : Int) = n
          · rw [decide_eq_true (v.2 ⟨c1, c2, c3⟩)]; simpa using c3
          · rw [decide_eq_false fun x => c3 (v.1 x).2.2]; simpa using c3
        rw [e]
        exact Ev.now _
      · simp only [if_neg fun x => c2 (i2.1 x)]
        rw [decide_eq_false fun x => c2 (v.1 x).2.1]
        exact Ev.now _
    · simp only [if_neg fun x => c1 (i1.1 x)]
      rw [decide_eq_false fun x => c1 (v.1 x).1]
      exact Ev.now _
  · simp only [if_pos (show ((d.size + p.size : Nat) : Int) > 30000 by omega)]
    rw [decide_eq_false fun x : ValidLog d p n => g x.1]
    exact Ev.now _
theorem implValid_ev (d p : ByteArray) (n : Int) (hd : d.size ≤ 1048576) (hp : p.size ≤ 1048576) : Ev (fun k => impl_IsValidLog.f k d p n) (decide (ValidLog d p n)) := by
  unfold impl_IsValidLog.f
  simp only [if_pos (show d.size + p.size ≤ 9223372036854775807 by omega)]
  have ec : (d.size : Int) + (p.size : Int) = ((d.size + p.size : Nat) : Int) := by omega
  simp only [ec]
  clear ec
  by_cases g : d.size + p.size ≤ 30000
  · simp only [if_neg (show ¬ ((d.size + p.size : Nat) : Int) > 30000 by omega)]
    obtain ⟨out, rest, h1, _, h2⟩ := open_both (d ++ p) (by rw [size_join]; omega)
    obtain ⟨out2, rest2, h3, _, h4⟩ := open_both d (by omega)
    have l1 := h1.le
    have l2 := h3.le
    rw [← L_size, size_join] at l1
    rw [← L_size] at l2
    rw [size_join] at h2
    have i1 := rest_iff l1
    have i2 := rest_iff l2
    have v := valid_iff (n := n) g h1 h3
    refine Ev.bind h2 (Ev.bind h4 ?_)
    by_cases c1 : rest = []
    · simp only [if_pos (i1.2 c1)]
      by_cases c2 : rest2 = []
      · simp only [if_pos (i2.2 c2)]
        have e : (n == (out.length : Int)) = decide (ValidLog d p n) := by
          by_cases c3 : (out.length : Int) = n
          · rw [decide_eq_true (v.2 ⟨c1, c2, c3⟩)]; simpa using c3.symm
          · rw [decide_eq_false fun x => c3 (v.1 x).2.2]; simpa using Ne.symm c3
        rw [e]
        exact Ev.now _
      · simp only [if_neg fun x => c2 (i2.1 x)]
        rw [decide_eq_false fun x => c2 (v.1 x).2.1]
        exact Ev.now _
    · simp only [if_neg fun x => c1 (i1.1 x)]
      rw [decide_eq_false fun x => c1 (v.1 x).1]
      exact Ev.now _
  · simp only [if_pos (show ((d.size + p.size : Nat) : Int) > 30000 by omega)]
    rw [decide_eq_false fun x : ValidLog d p n => g x.1]
    exact Ev.now _
theorem Reads.few {k : Nat} {w : List UInt8} {out : List S27} {rest : List UInt8} (h : Reads k w out rest) (hk : k ≤ 60) : k + out.length ≤ 60 := by
  induction h with
  | stop => simpa using hk
  | step hc _ ih =>
    have h1 := hc.1
    have := ih (by omega)
    simp only [List.length_cons]
    omega
/-! ### what is drawn -/
def Bytes (l : List Int) : Prop := ∀ x ∈ l, 0 ≤ x ∧ x ≤ 255
theorem rd_byte {l : List Int} (h : Bytes l) {i : Int} (h0 : 0 ≤ i) (h1 : i < l.length) : 0 ≤ rd l i ∧ rd l i ≤ 255 := by
  obtain ⟨n, rfl⟩ := Int.eq_ofNat_of_zero_le h0
  rw [rd_at l n (by omega)]
  exact h _ (List.getElem_mem _)
theorem mask_byte (z : Int) : 0 ≤ wrap64 (Go.bits .and .u64 (IntKind.u64.wrap z / 1099511627776) 255) ∧ wrap64 (Go.bits .and .u64 (IntKind.u64.wrap z / 1099511627776) 255) ≤ 255 := by
  have hx : 0 ≤ IntKind.u64.wrap z / 1099511627776 ∧ IntKind.u64.wrap z / 1099511627776 < 2 ^ 64 := by rw [IntKind.wrap_u64]; omega
  generalize IntKind.u64.wrap z / 1099511627776 = x at hx
  have e := Go.bits_mask .u64 64 (by decide) (fun n a b => IntWalk.u64_in n ⟨a, by omega⟩) 8 (by decide) x hx.1 hx.2
  rw [show (2 : Int) ^ 8 - 1 = 255 by decide, show (2 : Int) ^ 8 = 256 by decide] at e
  rw [e, wrap_of (by omega) (by omega)]
  omega
theorem next_ex {l : List Int} (h : Bytes l) (hl : l.length ≤ 100000) (s e : Int) (h0 : 0 ≤ s) (h1 : s ≤ 100000000) : ∃ v e', spec_l1Cur_next.f l s e = some (v, s + 1, e') ∧ 0 ≤ v ∧ v ≤ 255 := by
  unfold spec_l1Cur_next.f
  rw [wrap_of (x := s + 1) (by omega) (by omega)]
  by_cases g : s < (l.length : Int)
  · have hb := rd_byte h h0 g
    rw [if_pos g, if_pos h0, if_pos (show s + 1 ≤ (l.length : Int) by omega)]
    refine ⟨_, _, rfl, ?_⟩
    rw [wrap_of (by omega) (by omega)]
    exact hb
  · rw [if_neg g, if_neg (show ¬ s + 1 ≤ (l.length : Int) by omega)]
    exact ⟨_, _, rfl, mask_byte _⟩
theorem pick_ex {l : List Int} (h : Bytes l) (hl : l.length ≤ 100000) (s e a : Int) (h0 : 0 ≤ s) (h1 : s ≤ 10000000) : ∃ t s' e', spec_l1Cur_pick.f l s e a = some (t, s', e') ∧ 0 ≤ t ∧ (1 ≤ a → t < a) ∧ s ≤ s' ∧ s' ≤ s + 2 := by
  unfold spec_l1Cur_pick.f
  by_cases g : a ≤ 1
  · rw [if_pos g]; exact ⟨0, s, e, rfl, by omega, fun _ => by omega, by omega, by omega⟩
  · rw [if_neg g]
    obtain ⟨v, e1, hv, v0, v1⟩ := next_ex h hl s e h0 (by omega)
    rw [hv]
    by_cases g1 : a > 200
    · obtain ⟨w, e2, hw, w0, w1⟩ := next_ex h hl (s + 1) e1 (by omega) (by omega)
      simp only [Option.bind_some, if_pos g1, hw, if_neg (show ¬ a = 0 by omega)]
      rw [wrap_of (x := v * 256) (by omega) (by omega), wrap_of (x := v * 256 + w) (by omega) (by omega)]
      exact ⟨_, _, _, rfl, Int.tmod_nonneg _ (by omega), fun _ => Int.tmod_lt_of_pos _ (by omega), by omega, by omega⟩
    · simp only [Option.bind_some, if_neg g1, if_neg (show ¬ a = 0 by omega)]
      exact ⟨_, _, _, rfl, Int.tmod_nonneg _ (by omega), fun _ => Int.tmod_lt_of_pos _ (by omega), by omega, by omega⟩
theorem of_ex {l : List Int} (h : Bytes l) (hl : l.length ≤ 100000) (s e : Int) (h0 : 0 ≤ s) (h1 : s ≤ 10000000) (xs : List ByteArray) (hx : 1 ≤ xs.length) (hs : ∀ x ∈ xs, x.size ≤ 20) :
    ∃ t s' e', spec_l1Cur_of.f l s e xs = some (t, s', e') ∧ t.size ≤ 20 ∧ s ≤ s' ∧ s' ≤ s + 2 := by
  unfold spec_l1Cur_of.f
  obtain ⟨t, s', e', ht, t0, t1, b0, b1⟩ := pick_ex h hl s e (xs.length : Int) h0 h1
  have t2 := t1 (by omega)
  obtain ⟨n, rfl⟩ := Int.eq_ofNat_of_zero_le t0
  rw [ht]
  simp only [Option.bind_some, if_pos t0, if_pos t2]
  refine ⟨_, _, _, rfl, ?_, b0, b1⟩
  have hn : n < xs.length := by omega
  have e : rdOf ByteArray.empty xs (n : Int) = xs[n] := by unfold rdOf; simp [hn]
  rw [e]
  exact hs _ (List.getElem_mem _)
theorem logRecord_ex {l : List Int} (h : Bytes l) (hl : l.length ≤ 100000) (s e : Int) (h0 : 0 ≤ s) (h1 : s ≤ 1000000) :
    ∃ c r s' e', spec_l1Cur_logRecord.f l s e = some (c, r, s', e') ∧ c.size ≤ 20 ∧ r.size ≤ 20 ∧ s ≤ s' ∧ s' ≤ s + 8 := by
  unfold spec_l1Cur_logRecord.f
  obtain ⟨c, s1, e1, hc, c0, c1, c2⟩ := of_ex h hl s e h0 (by omega) _ (by decide) (show ∀ x ∈ ([(⟨#[103, 114, 97, 112, 104]⟩ : ByteArray), (⟨#[112, 117, 116, 32, 49]⟩ : ByteArray), (⟨#[120]⟩ : ByteArray), (⟨#[99, 111, 108, 111, 117, 114, 32, 49, 32, 50]⟩ : ByteArray), (⟨#[48, 32, 49]⟩ : ByteArray)] : List ByteArray), x.size ≤ 20 by
    intro x hx
    simp only [List.mem_cons, List.not_mem_nil, or_false] at hx
    rcases hx with rfl | rfl | rfl | rfl | rfl <;> decide)
  rw [hc]
  simp only [Option.bind_some]
  obtain ⟨r, s2, e2, hr, r0, r1, r2⟩ := of_ex h hl s1 e1 (by omega) (by omega) _ (by decide) (show ∀ x ∈ ([(⟨#[]⟩ : ByteArray), (⟨#[51]⟩ : ByteArray), (⟨#[63]⟩ : ByteArray), (⟨#[97, 64, 98]⟩ : ByteArray), (⟨#[51, 32, 49, 32, 50]⟩ : ByteArray)] : List ByteArray), x.size ≤ 20 by
    intro x hx
    simp only [List.mem_cons, List.not_mem_nil, or_false] at hx
    rcases hx with rfl | rfl | rfl | rfl | rfl <;> decide)
  rw [hr]
  simp only [Option.bind_some]
  obtain ⟨t, s3, e3, ht, t0, t1, b0, b1⟩ := pick_ex h hl s2 e2 24 (by omega) (by omega)
  rw [ht]
  simp only [Option.bind_some]
  by_cases g : t = 0
  · obtain ⟨u, s4, e4, hu, u0, u1, u2⟩ := of_ex h hl s3 e3 (by omega) (by omega) _ (by decide) (show ∀ x ∈ ([(⟨#[]⟩ : ByteArray), (⟨#[97, 64, 98]⟩ : ByteArray), (⟨#[97, 35]⟩ : ByteArray), (⟨#[10]⟩ : ByteArray), strOfNums (List.replicate 3 0)] : List ByteArray), x.size ≤ 20 by
      intro x hx
      simp only [List.mem_cons, List.not_mem_nil, or_false] at hx
      rcases hx with rfl | rfl | rfl | rfl | rfl <;> decide)
    rw [if_pos g, if_pos (by decide), hu]
    exact ⟨u, r, s4, e4, rfl, u0, r0, by omega, by omega⟩
  · rw [if_neg g]
    by_cases g1 : t = 1
    · obtain ⟨u, s4, e4, hu, u0, u1, u2⟩ := of_ex h hl s3 e3 (by omega) (by omega) _ (by decide) (show ∀ x ∈ ([(⟨#[35]⟩ : ByteArray), (⟨#[10]⟩ : ByteArray), (⟨#[127]⟩ : ByteArray)] : List ByteArray), x.size ≤ 20 by
        intro x hx
        simp only [List.mem_cons, List.not_mem_nil, or_false] at hx
        rcases hx with rfl | rfl | rfl <;> decide)
      rw [if_pos g1, hu]
      exact ⟨c, u, s4, e4, rfl, c0, u0, by omega, by omega⟩
    · rw [if_neg g1]
      exact ⟨c, r, s3, e3, rfl, c0, r0, by omega, by omega⟩
theorem among_ex {l : List Int} (h : Bytes l) (hl : l.length ≤ 100000) (s e : Int) (h0 : 0 ≤ s) (h1 : s ≤ 1000000) (xs : List Int) (hx : 1 ≤ xs.length) : ∃ t s' e', spec_l1Cur_among.f l s e xs = some (t, s', e') ∧ s ≤ s' ∧ s' ≤ s + 2 := by
  unfold spec_l1Cur_among.f
  obtain ⟨t, s', e', ht, t0, t1, b0, b1⟩ := pick_ex h hl s e (xs.length : Int) h0 (by omega)
  rw [ht]
  simp only [Option.bind_some, if_pos t0, if_pos (t1 (by omega))]
  exact ⟨_, _, _, rfl, b0, b1⟩
theorem one_ex {l : List Int} (h : Bytes l) (hl : l.length ≤ 100000) (s e a : Int) (h0 : 0 ≤ s) (h1 : s ≤ 1000000) : ∃ t s' e', spec_l1Cur_one.f l s e a = some (t, s', e') ∧ s ≤ s' ∧ s' ≤ s + 2 := by
  unfold spec_l1Cur_one.f
  obtain ⟨t, s', e', ht, t0, t1, b0, b1⟩ := pick_ex h hl s e a h0 (by omega)
  rw [ht]
  exact ⟨_, _, _, rfl, b0, b1⟩
theorem cut_ex {l : List Int} (h : Bytes l) (hl : l.length ≤ 65536) (a : Int) (h0 : 0 ≤ a) (h1 : a ≤ 10) : ∃ y, laws_vCut.f l a = some y ∧ Bytes y ∧ y.length ≤ 100000 := by
  unfold laws_vCut.f
  have main : ∀ n : Nat, ∀ b : Int, 0 ≤ b → (∃ y, (some (([] : List Int) ++ l.drop n) : Option (List Int)).bind (fun y => if y.length < 140737488355328 then some (y ++ [b % 256]) else none) = some y ∧ Bytes y ∧ y.length ≤ 100000) := by
    intro n b hb
    have hd : (l.drop n).length ≤ 65536 := by rw [List.length_drop]; omega
    simp only [Option.bind_some, List.nil_append, if_pos (show (l.drop n).length < 140737488355328 by omega)]
    refine ⟨_, rfl, ?_, by simp only [List.length_append, List.length_singleton]; omega⟩
    intro x hx
    rcases List.mem_append.1 hx with hx | hx
    · exact h x (List.mem_of_mem_drop hx)
    · rw [List.mem_singleton.1 hx]; omega
  have hz : ∀ n : Nat, ([] : List Int).length + (l.drop n).length < 140737488355328 := by intro n; rw [List.length_drop]; simp only [List.length_nil]; omega
  by_cases g : a > (l.length : Int)
  · obtain ⟨y, h2, h3⟩ := main ((l.length : Int)).toNat (l.length : Int) (by omega)
    refine ⟨y, ?_, h3⟩
    rw [if_pos g, Option.bind_some, if_pos (by omega), if_pos (by omega), if_pos (hz _)]
    exact h2
  · obtain ⟨y, h2, h3⟩ := main a.toNat a h0
    refine ⟨y, ?_, h3⟩
    rw [if_neg g, Option.bind_some, if_pos h0, if_pos (by omega), if_pos (hz _)]
    exact h2
/-! ### one more line -/
theorem ValidLog.few {d p : ByteArray} {n : Int} (h : ValidLog d p n) : 0 ≤ n ∧ n ≤ 60 := by
  obtain ⟨_, ⟨all, h1, rfl⟩, _⟩ := h
  have := h1.few (by omega)
  omega
theorem line_size {k : Nat} {c r : ByteArray} (hk : k < 60) (h : RecordOk c r) : 0 < (L (lineOf k c r)).length ∧ (L (lineOf k c r)).length ≤ 423 := by
  have h3 := body_size (show k ≤ 1048576 by omega) h
  have h4 := seal_size _ (show (bodyOf k c r).size ≤ 1048576 by omega)
  rw [L_size] at h4
  rw [L_line, List.length_append]
  refine ⟨Nat.succ_pos _, ?_⟩
  show _ + 1 ≤ _
  omega
theorem Reads.snoc {k : Nat} {w rest : List UInt8} {out : List S27} (h : Reads k w out rest) (hr : rest = []) {c r : ByteArray} (hc : RecordOk c r) (hk : k + out.length < 60) :
    Reads k (w ++ L (lineOf (k + out.length) c r)) (out ++ [(⟨c, r⟩ : S27)]) [] := by
  induction h with
  | stop _ =>
    subst hr
    refine .step (v := []) ⟨by simpa using hk, hc, by simp⟩ (.stop ?_)
    intro c' r' v hh
    have h1 := congrArg List.length hh.2.2
    have h2 := (line_size hh.1 hh.2.1).1
    rw [List.length_append, List.length_nil] at h1
    omega
  | step h1 h0 ih =>
    rename_i k w v rest c' r' out
    have h2 := ih hr (by rw [List.length_cons] at hk; omega)
    rw [show k + 1 + out.length = k + ((⟨c', r'⟩ : S27) :: out).length by rw [List.length_cons]; omega] at h2
    refine .step (v := v ++ _) ⟨h1.1, h1.2.1, ?_⟩ h2
    rw [h1.2.2, List.append_assoc]
theorem Reads.size {k : Nat} {w rest : List UInt8} {out : List S27} (h : Reads k w out rest) (hr : rest = []) (hk : k ≤ 60) : w.length ≤ 423 * out.length := by
  induction h with
  | stop _ => subst hr; simp
  | step h1 h0 ih =>
    have h2 := ih hr (by have := h1.1; omega)
    have h3 := (line_size h1.1 h1.2.1).2
    rw [h1.2.2, List.length_append, List.length_cons]
    omega
theorem L_join3 (a b c : ByteArray) : L (a ++ (b ++ c)) = L (a ++ b) ++ L c := by simp only [L_append, List.append_assoc]
theorem ValidLog.more {d p : ByteArray} {k : Nat} {all : List S27} (h : ValidLog d p k) (ha : Reads 0 (L (d ++ p)) all []) (hk : k < 60) {c r : ByteArray} (hc : RecordOk c r) :
    all.length = k ∧ ValidLog d (p ++ lineOf k c r) ((k : Int) + 1) ∧ Reads 0 (L (d ++ (p ++ lineOf k c r))) (all ++ [(⟨c, r⟩ : S27)]) [] := by
  obtain ⟨_, ⟨all', h1, h2⟩, h3⟩ := h
  obtain ⟨rfl, _⟩ := ha.unique h1
  have e : all.length = k := by omega
  have h4 := h1.snoc rfl hc (show 0 + all.length < 60 by omega)
  rw [Nat.zero_add, e, ← L_join3] at h4
  have h5 := h4.size rfl (by omega)
  rw [← L_size, size_join, List.length_append, e] at h5
  refine ⟨e, ⟨?_, ⟨_, h4, ?_⟩, h3⟩, h4⟩
  · have : [(⟨c, r⟩ : S27)].length = 1 := rfl
    omega
  · rw [List.length_append, e]; rfl
theorem ValidLog.synced {d p : ByteArray} {n : Int} (h : ValidLog d p n) : ValidLog (d ++ p) ⟨#[]⟩ n ∧ (d ++ p) ++ (⟨#[]⟩ : ByteArray) = d ++ p := by
  obtain ⟨h0, ⟨all, h1, h2⟩, h3⟩ := h
  have e : (d ++ p) ++ (⟨#[]⟩ : ByteArray) = d ++ p := L_inj (by rw [L_append, L_nil, List.append_nil])
  refine ⟨⟨?_, ⟨all, by rw [e]; exact h1, h2⟩, ⟨all, h1⟩⟩, e⟩
  rw [size_join]
  show d.size + p.size + 0 ≤ 30000
  omega
/-- What AppendRecord does. -/
theorem append_full (d p : ByteArray) (n : Int) (c r : ByteArray) (z1 : d.size ≤ 1048576) (z2 : p.size ≤ 1048576) (z3 : c.size ≤ 1048576) (z4 : r.size ≤ 1048576) :
    ∃ x y m q, Ev (fun k => spec_AppendRecord.f k d p n c r) (x, y, m, q) ∧ Ev (fun k => impl_AppendRecord.f k d p n c r) (x, y, m, q) ∧
      ((¬ q = 0 ∧ x = d ∧ y = p ∧ m = n) ∨ (q = 0 ∧ x = d ∧ ∃ j : Nat, n = j ∧ j < 60 ∧ ValidLog d p j ∧ RecordOk c r ∧ y = p ++ lineOf j c r ∧ m = (j : Int) + 1)) := by
  have f1 : Ev (fun k => spec_AppendRecord.j0 k true d p n c r) (d, p, n, 1) := by
    refine Ev.step (fun k => by rw [spec_AppendRecord.j0]) ?_
    simp only [if_true]; exact Ev.now _
  have f2 : Ev (fun k => impl_AppendRecord.j0 k true d p n c r) (d, p, n, 1) := by
    refine Ev.step (fun k => by rw [impl_AppendRecord.j0]) ?_
    simp only [if_true]; exact Ev.now _
  unfold spec_AppendRecord.f impl_AppendRecord.f
  have s1 := specValid_ev d p n z1 z2
  have s2 := implValid_ev d p n z1 z2
  have s3 := specRecord_ev c r z3 z4
  have s4 := implRecord_ev c r z3 z4
  by_cases v : ValidLog d p n
  · rw [decide_eq_true v] at s1 s2
    by_cases g : RecordOk c r
    · rw [decide_eq_true g] at s3 s4
      obtain ⟨b0, b1⟩ := v.few
      by_cases e : n = 60
      · refine ⟨d, p, n, 2, Ev.bind s1 ?_, Ev.bind s2 ?_, .inl ⟨by decide, rfl, rfl, rfl⟩⟩
        · simp only [if_true]
          refine Ev.bind s3 (Ev.step (fun k => by rw [spec_AppendRecord.j0]) ?_)
          simp only [Bool.not_true, Bool.false_eq_true, if_false, if_pos e]; exact Ev.now _
        · simp only [if_true]
          refine Ev.bind s4 (Ev.step (fun k => by rw [impl_AppendRecord.j0]) ?_)
          simp only [Bool.not_true, Bool.false_eq_true, if_false, if_pos e]; exact Ev.now _
      · obtain ⟨n, rfl⟩ := Int.eq_ofNat_of_zero_le b0
        have hl := encode_ev n c r z3 z4
        rw [if_pos ⟨by omega, by omega, g⟩, Int.toNat_natCast] at hl
        have hz : (lineOf n c r).size ≤ 423 := by rw [L_size]; exact (line_size (by omega) g).2
        have hs := specLine_ev (show n ≤ 1048576 by omega) g
        refine ⟨d, p ++ lineOf n c r, (n : Int) + 1, 0, ?_, ?_, .inr ⟨rfl, rfl, n, rfl, by omega, v, g, rfl, rfl⟩⟩
        · generalize lineOf n c r = t at hl hz hs
          have hsum : p.size + t.size ≤ 9223372036854775807 := by omega
          refine Ev.bind s1 ?_
          simp only [if_true]
          refine Ev.bind s3 (Ev.step (fun k => by rw [spec_AppendRecord.j0]) ?_)
          simp only [Bool.not_true, Bool.false_eq_true, if_false, if_neg e]
          refine Ev.bind hs ?_
          simp only [if_pos hsum, wrap_of (x := (n : Int) + 1) (by omega) (by omega)]; exact Ev.now _
        · generalize lineOf n c r = t at hl hz hs
          have hsum : p.size + t.size ≤ 9223372036854775807 := by omega
          refine Ev.bind s2 ?_
          simp only [if_true]
          refine Ev.bind s4 (Ev.step (fun k => by rw [impl_AppendRecord.j0]) ?_)
          simp only [Bool.not_true, Bool.false_eq_true, if_false, if_neg e]
          refine Ev.bind hl ?_
          simp only [if_pos hsum, wrap_of (x := (n : Int) + 1) (by omega) (by omega)]; exact Ev.now _
    · rw [decide_eq_false g] at s3 s4
      refine ⟨d, p, n, 1, Ev.bind s1 ?_, Ev.bind s2 ?_, .inl ⟨by decide, rfl, rfl, rfl⟩⟩
      · simp only [if_true]
        exact Ev.bind s3 f1
      · simp only [if_true]
        exact Ev.bind s4 f2
  · rw [decide_eq_false v] at s1 s2
    refine ⟨d, p, n, 1, Ev.bind s1 ?_, Ev.bind s2 ?_, .inl ⟨by decide, rfl, rfl, rfl⟩⟩
    · simp only [Bool.false_eq_true, if_false]; exact f1
    · simp only [Bool.false_eq_true, if_false]; exact f2
/-- What SyncLog does. -/
theorem sync_full (d p : ByteArray) (n : Int) (z1 : d.size ≤ 1048576) (z2 : p.size ≤ 1048576) : ∃ a b c e, Ev (fun k => spec_SyncLog.f k d p n) (a, b, c, e) ∧ Ev (fun k => impl_SyncLog.f k d p n) (a, b, c, e) ∧
    ((e = true ∧ ValidLog d p n ∧ a = d ++ p ∧ b = ⟨#[]⟩ ∧ c = n) ∨ (e = false ∧ ¬ ValidLog d p n ∧ a = ⟨#[]⟩ ∧ b = ⟨#[]⟩)) := by
  unfold spec_SyncLog.f impl_SyncLog.f
  by_cases v : ValidLog d p n
  · refine ⟨d ++ p, ⟨#[]⟩, n, true, Ev.bind (specValid_ev d p n z1 z2) ?_, Ev.bind (implValid_ev d p n z1 z2) ?_, .inl ⟨rfl, v, rfl, rfl, rfl⟩⟩ <;>
    · simp only [decide_eq_true v, if_true, if_pos (show d.size + p.size ≤ 9223372036854775807 by omega)]
      exact Ev.now _
  · refine ⟨⟨#[]⟩, ⟨#[]⟩, 0, false, Ev.bind (specValid_ev d p n z1 z2) ?_, Ev.bind (implValid_ev d p n z1 z2) ?_, .inr ⟨rfl, v, rfl, rfl⟩⟩ <;>
    · simp only [decide_eq_false v, Bool.false_eq_true, if_false]
      exact Ev.now _
/-- What LogRecords does. -/
theorem records_full (d p : ByteArray) (n : Int) (z1 : d.size ≤ 1048576) (z2 : p.size ≤ 1048576) : ∃ a b, Ev (fun k => spec_LogRecords.f k d p n) (a, b) ∧ Ev (fun k => impl_LogRecords.f k d p n) (a, b) ∧ a.length ≤ 60 ∧ (ValidLog d p n → b = true ∧ Reads 0 (L (d ++ p)) a []) := by
  unfold spec_LogRecords.f impl_LogRecords.f
  by_cases v : ValidLog d p n
  · obtain ⟨out, rest, h1, h2, h3⟩ := open_both (d ++ p) (by rw [size_join]; have := v.1; omega)
    obtain ⟨all, g1, g2⟩ := v.2.1
    obtain ⟨rfl, rfl⟩ := h1.unique g1
    refine ⟨out, true, Ev.bind (specValid_ev d p n z1 z2) ?_, Ev.bind (implValid_ev d p n z1 z2) ?_, by have := h1.few (by omega); omega, fun _ => ⟨rfl, h1⟩⟩
    · simp only [decide_eq_true v, if_true, if_pos (show d.size + p.size ≤ 9223372036854775807 by omega)]
      exact Ev.bind h2 (Ev.now _)
    · simp only [decide_eq_true v, if_true, if_pos (show d.size + p.size ≤ 9223372036854775807 by omega)]
      exact Ev.bind h3 (Ev.now _)
  · refine ⟨[], false, Ev.bind (specValid_ev d p n z1 z2) ?_, Ev.bind (implValid_ev d p n z1 z2) ?_, by simp, fun x => absurd x v⟩ <;>
    · simp only [decide_eq_false v, Bool.false_eq_true, if_false]
      exact Ev.now _
/-! ### logs that are drawn -/
def Small (d p : ByteArray) : Prop := d.size + p.size ≤ 30000
theorem appended_small {d p x y : ByteArray} {n m q : Int} {c r : ByteArray} (h : Small d p)
    (a : (¬ q = 0 ∧ x = d ∧ y = p ∧ m = n) ∨ (q = 0 ∧ x = d ∧ ∃ j : Nat, n = j ∧ j < 60 ∧ ValidLog d p j ∧ RecordOk c r ∧ y = p ++ lineOf j c r ∧ m = (j : Int) + 1)) : Small x y := by
  rcases a with ⟨_, rfl, rfl, _⟩ | ⟨_, rfl, j, rfl, hj, hv, hc, rfl, _⟩
  · exact h
  · have hv1 := hv
    obtain ⟨_, ⟨all, h1, _⟩, _⟩ := hv1
    exact (ValidLog.more hv h1 hj hc).2.1.1
theorem ext_le (x : ByteArray) (a b : Nat) : (x.extract a b).size ≤ x.size := by
  rw [L_size, L_extract, L_size x, List.length_take, List.length_drop]; omega
theorem log12_loop {l : List Int} (h : Bytes l) (hl : l.length ≤ 100000) (m : Nat) : ∀ (s e : Int) (d p : ByteArray) (n : Int), 0 ≤ s → s + 12 * (m : Int) ≤ 100000 → Small d p →
    ∃ d' p' n' s' e', Ev (fun k => spec_l1Cur_log12.l0 k m l s e d p n) (d', p', n', s', e') ∧ Small d' p' ∧ s ≤ s' ∧ s' ≤ s + 12 * (m : Int) := by
  induction m with
  | zero =>
    intro s e d p n h0 h1 hs
    refine ⟨d, p, n, s, e, Ev.step (fun k => by rw [spec_l1Cur_log12.l0]) ?_, hs, by omega, by omega⟩
    simp only [if_neg (show ¬ (((0 : Nat) : Int) > 0) by decide)]
    exact Ev.now _
  | succ m ih =>
    intro s e d p n h0 h1 hs
    have hs0 : d.size + p.size ≤ 30000 := hs
    obtain ⟨c, r, s1, e1, hc, c0, r0, b0, b1⟩ := logRecord_ex h hl s e h0 (by omega)
    obtain ⟨x, y, n1, q, ha, _, hx⟩ := append_full d p n c r (by omega) (by omega) (by omega) (by omega)
    have hxy := appended_small hs hx
    have hxy0 : x.size + y.size ≤ 30000 := hxy
    clear hx
    obtain ⟨t, s2, e2, ht, b2, b3⟩ := one_ex h hl s1 e1 4 (by omega) (by omega)
    have hw : ∀ {u : ByteArray × ByteArray × Int × Int × Int} {f : Int → Nat → Option (ByteArray × ByteArray × Int × Int × Int)}, Ev (fun k => f ((m : Nat) : Int) k) u → Ev (fun k => f (wrap64 (((m + 1 : Nat) : Int) - 1)) k) u := by
      intro u f hu
      rw [wrap_of (by omega) (by omega), show ((m + 1 : Nat) : Int) - 1 = (m : Int) by omega]
      exact hu
    cases t with
    | true =>
      obtain ⟨x2, y2, n2, z, hz, _, hq⟩ := sync_full x y n1 (by omega) (by omega)
      have hxy2 : Small x2 y2 := by
        rcases hq with ⟨_, _, rfl, rfl, _⟩ | ⟨_, _, rfl, rfl⟩
        · show (x ++ y).size + 0 ≤ 30000
          rw [size_join]; omega
        · show 0 + 0 ≤ 30000
          decide
      clear hq
      obtain ⟨d', p', n', s', e', hf, g1, g2, g3⟩ := ih s2 e2 x2 y2 n2 (by omega) (by omega) hxy2
      refine ⟨d', p', n', s', e', Ev.step (fun k => by rw [spec_l1Cur_log12.l0]) ?_, g1, by omega, by omega⟩
      simp only [if_pos (show (((m + 1 : Nat) : Int) > 0) by omega), hc]
      refine Ev.bind (Ev.now _) (Ev.bind ha ?_)
      simp only [ht]
      refine Ev.bind (Ev.now _) ?_
      simp only [if_true]
      refine Ev.bind hz ?_
      exact hw (f := fun a k => spec_l1Cur_log12.l0 k a l s2 e2 x2 y2 n2) hf
    | false =>
      obtain ⟨d', p', n', s', e', hf, g1, g2, g3⟩ := ih s2 e2 x y n1 (by omega) (by omega) hxy
      refine ⟨d', p', n', s', e', Ev.step (fun k => by rw [spec_l1Cur_log12.l0]) ?_, g1, by omega, by omega⟩
      simp only [if_pos (show (((m + 1 : Nat) : Int) > 0) by omega), hc]
      refine Ev.bind (Ev.now _) (Ev.bind ha ?_)
      simp only [ht]
      refine Ev.bind (Ev.now _) ?_
      simp only [Bool.false_eq_true, if_false]
      exact hw (f := fun a k => spec_l1Cur_log12.l0 k a l s2 e2 x y n1) hf
theorem log12_ex {l : List Int} (h : Bytes l) (hl : l.length ≤ 100000) (s e : Int) (h0 : 0 ≤ s) (h1 : s ≤ 1000) :
    ∃ d p n s' e', Ev (fun k => spec_l1Cur_log12.f k l s e) (d, p, n, s', e') ∧ Small d p ∧ s ≤ s' ∧ s' ≤ s + 100 := by
  unfold spec_l1Cur_log12.f
  obtain ⟨t, s1, e1, ht, t0, t1, b0, b1⟩ := pick_ex h hl s e 7 h0 (by omega)
  have t2 := t1 (by decide)
  obtain ⟨m, rfl⟩ := Int.eq_ofNat_of_zero_le t0
  obtain ⟨d, p, n, s', e', hf, g1, g2, g3⟩ := log12_loop h hl m s1 e1 ⟨#[]⟩ ⟨#[]⟩ 0 (by omega) (by omega) (show 0 + 0 ≤ 30000 by decide)
  refine ⟨d, p, n, s', e', ?_, g1, by omega, by omega⟩
  rw [ht]
  exact Ev.bind (Ev.now _) hf
theorem spoilt_ex {l : List Int} (h : Bytes l) (hl : l.length ≤ 100000) (s e : Int) (h0 : 0 ≤ s) (h1 : s ≤ 1000000) (a b : ByteArray) (ha : a.size ≤ 30000) (hb : b.size = 5) :
    ∃ t s' e', spec_l1Cur_spoilt.f l s e a b = some (t, s', e') ∧ t.size ≤ 100000 ∧ s ≤ s' ∧ s' ≤ s + 6 := by
  unfold spec_l1Cur_spoilt.f
  by_cases g : a.toList = []
  · rw [if_pos g, if_pos (by decide), if_pos (by omega)]
    have := ext_le b 0 1
    exact ⟨b.extract 0 1, s, e, rfl, by omega, by omega, by omega⟩
  · rw [if_neg g]
    have hp : 1 ≤ a.size := by
      rw [L_toList] at g
      rw [L_size]
      exact List.length_pos_iff.2 g
    obtain ⟨i, s1, e1, hi, i0, i1, b0, b1⟩ := pick_ex h hl s e (a.size : Int) h0 (by omega)
    have i2 := i1 (by omega)
    obtain ⟨j, s2, e2, hj, j0, j1, b2, b3⟩ := pick_ex h hl s1 e1 (b.size : Int) (by omega) (by omega)
    have j2 := j1 (by omega)
    obtain ⟨q, s3, e3, hq, q0, q1, b4, b5⟩ := pick_ex h hl s2 e2 3 (by omega) (by omega)
    obtain ⟨i, rfl⟩ := Int.eq_ofNat_of_zero_le i0
    obtain ⟨j, rfl⟩ := Int.eq_ofNat_of_zero_le j0
    rw [hi, Option.bind_some, hj, Option.bind_some]
    simp only [Int.toNat_natCast]
    rw [if_pos (by omega), if_pos (by omega), if_pos (by decide), if_pos (by omega), hq, Option.bind_some]
    have z1 := ext_le a 0 i
    have z2 := ext_le (b.extract j b.size) 0 1
    have z3 := ext_le b j b.size
    have z4 := ext_le a i a.size
    have z5 := ext_le a (i + 1) a.size
    have w : wrap64 ((i : Int) + 1) = ((i + 1 : Nat) : Int) := wrap_one (by omega)
    rw [w]
    clear w
    simp only [Int.toNat_natCast]
    by_cases g1 : q = 0
    · rw [if_pos g1, if_pos (by omega), if_pos (by omega), if_pos (by omega), if_pos (by omega)]
      exact ⟨_, s3, e3, rfl, by rw [size_join, size_join]; omega, by omega, by omega⟩
    · rw [if_neg g1]
      by_cases g2 : q = 1
      · rw [if_pos g2, if_pos (by omega), if_pos (by omega), if_pos (by omega), if_pos (by omega), if_pos (by omega), if_pos (by omega)]
        exact ⟨_, s3, e3, rfl, by rw [size_join, size_join]; omega, by omega, by omega⟩
      · rw [if_neg g2, if_pos (by omega), if_pos (by omega), if_pos (by omega), if_pos (by omega), if_pos (by omega)]
        exact ⟨_, s3, e3, rfl, by rw [size_join]; omega, by omega, by omega⟩
theorem anyLog_ex {l : List Int} (h : Bytes l) (hl : l.length ≤ 100000) : ∃ d p n s e, Ev (fun k => spec_l1Cur_anyLog.f k l 0 0) (d, p, n, s, e) ∧ d.size ≤ 100000 ∧ p.size ≤ 100000 ∧ 0 ≤ s ∧ s ≤ 1000 := by
  unfold spec_l1Cur_anyLog.f
  obtain ⟨d, p, n, s1, e1, hf, g1, b0, b1⟩ := log12_ex h hl 0 0 (by decide) (by decide)
  have g2 : d.size + p.size ≤ 30000 := g1
  obtain ⟨t, s2, e2, ht, t0, t1, b2, b3⟩ := pick_ex h hl s1 e1 24 (by omega) (by omega)
  by_cases c0 : t = 0
  · refine ⟨d, p, wrap64 (n + 1), s2, e2, Ev.bind hf ?_, by omega, by omega, by omega, by omega⟩
    simp only [ht]
    refine Ev.bind (Ev.now _) ?_
    simp only [if_pos c0]; exact Ev.now _
  · by_cases c1 : t = 1
    · obtain ⟨u, s3, e3, hu, u0, b4, b5⟩ := spoilt_ex h hl s2 e2 (by omega) (by omega) p ⟨#[35, 64, 10, 48, 49]⟩ (by omega) rfl
      refine ⟨d, u, n, s3, e3, Ev.bind hf ?_, by omega, by omega, by omega, by omega⟩
      simp only [ht]
      refine Ev.bind (Ev.now _) ?_
      simp only [if_neg c0, if_pos c1, hu]
      exact Ev.bind (Ev.now _) (Ev.now _)
    · by_cases c2 : t = 2
      · refine ⟨d ++ p, p, n, s2, e2, Ev.bind hf ?_, by rw [size_join]; omega, by omega, by omega, by omega⟩
        simp only [ht]
        refine Ev.bind (Ev.now _) ?_
        simp only [if_neg c0, if_neg c1, if_pos c2, if_pos (show d.size + p.size ≤ 9223372036854775807 by omega)]; exact Ev.now _
      · refine ⟨d, p, n, s2, e2, Ev.bind hf ?_, by omega, by omega, by omega, by omega⟩
        simp only [ht]
        refine Ev.bind (Ev.now _) ?_
        simp only [if_neg c0, if_neg c1, if_neg c2]; exact Ev.now _
theorem drawValid_ex {l : List Int} (h : Bytes l) (hl : l.length ≤ 100000) : ∃ d p n, Ev (fun k => spec_DrawIsValidLog.f k l) (d, p, n) ∧ d.size ≤ 100000 ∧ p.size ≤ 100000 := by
  unfold spec_DrawIsValidLog.f
  obtain ⟨d, p, n, s, e, hf, z1, z2, _⟩ := anyLog_ex h hl
  exact ⟨d, p, n, Ev.bind hf (Ev.now _), z1, z2⟩
theorem drawAppend_loop {l : List Int} (h : Bytes l) (hl : l.length ≤ 100000) (s e : Int) (h0 : 0 ≤ s) (h1 : s ≤ 10000) (m : Nat) (hm : m ≤ 1000) : ∀ (d p : ByteArray) (n : Int), Small d p →
    ∃ d' p' n' c r, Ev (fun k => spec_DrawAppendRecord.l0 k m l s e d p n) (d', p', n', c, r) ∧ Small d' p' ∧ c.size ≤ 20 ∧ r.size ≤ 20 := by
  induction m with
  | zero =>
    intro d p n hs
    obtain ⟨c, r, s1, e1, hc, c0, r0, b0, b1⟩ := logRecord_ex h hl s e h0 (by omega)
    refine ⟨d, p, n, c, r, Ev.step (fun k => by rw [spec_DrawAppendRecord.l0]) ?_, hs, c0, r0⟩
    simp only [if_neg (show ¬ (((0 : Nat) : Int) > 0) by decide), hc]
    exact Ev.bind (Ev.now _) (Ev.now _)
  | succ m ih =>
    intro d p n hs
    have hs0 : d.size + p.size ≤ 30000 := hs
    obtain ⟨x, y, n1, q, ha, _, hx⟩ := append_full d p n ⟨#[120]⟩ ⟨#[]⟩ (by omega) (by omega) (by decide) (by decide)
    obtain ⟨d', p', n', c, r, hf, g1, g2, g3⟩ := ih (by omega) x y n1 (appended_small hs hx)
    refine ⟨d', p', n', c, r, Ev.step (fun k => by rw [spec_DrawAppendRecord.l0]) ?_, g1, g2, g3⟩
    simp only [if_pos (show (((m + 1 : Nat) : Int) > 0) by omega)]
    refine Ev.bind ha ?_
    rw [wrap_of (x := ((m + 1 : Nat) : Int) - 1) (by omega) (by omega), show ((m + 1 : Nat) : Int) - 1 = (m : Int) by omega]
    exact hf
theorem drawAppend_ex {l : List Int} (h : Bytes l) (hl : l.length ≤ 100000) : ∃ d p n c r, Ev (fun k => spec_DrawAppendRecord.f k l) (d, p, n, c, r) ∧ d.size ≤ 100000 ∧ p.size ≤ 100000 ∧ c.size ≤ 20 ∧ r.size ≤ 20 := by
  unfold spec_DrawAppendRecord.f
  obtain ⟨d, p, n, s, e, hf, z1, z2, b0, b1⟩ := anyLog_ex h hl
  obtain ⟨t, s1, e1, ht, b2, b3⟩ := one_ex h hl s e 40 b0 (by omega)
  cases t with
  | true =>
    obtain ⟨u, s2, e2, hu, u0, u1, b4, b5⟩ := pick_ex h hl s1 e1 2 (by omega) (by omega)
    have u2 := u1 (by decide)
    obtain ⟨u, rfl⟩ := Int.eq_ofNat_of_zero_le u0
    obtain ⟨d', p', n', c, r, hg, g1, g2, g3⟩ := drawAppend_loop h hl s2 e2 (by omega) (by omega) (59 + u) (by omega) ⟨#[]⟩ ⟨#[]⟩ 0 (show 0 + 0 ≤ 30000 by decide)
    have g4 : d'.size + p'.size ≤ 30000 := g1
    refine ⟨d', p', n', c, r, Ev.bind hf ?_, by omega, by omega, g2, g3⟩
    simp only [ht]
    refine Ev.bind (Ev.now _) ?_
    simp only [if_true, hu]
    refine Ev.bind (Ev.now _) ?_
    rw [wrap_of (x := 59 + (u : Int)) (by omega) (by omega), show 59 + (u : Int) = ((59 + u : Nat) : Int) by omega]
    exact hg
  | false =>
    obtain ⟨c, r, s2, e2, hc, c0, r0, b4, b5⟩ := logRecord_ex h hl s1 e1 (by omega) (by omega)
    refine ⟨d, p, n, c, r, Ev.bind hf ?_, z1, z2, c0, r0⟩
    simp only [ht]
    refine Ev.bind (Ev.now _) ?_
    simp only [Bool.false_eq_true, if_false, hc]
    exact Ev.bind (Ev.now _) (Ev.now _)
theorem specEncode_ev (k : Int) (c r : ByteArray) (hc : c.size ≤ 1048576) (hr : r.size ≤ 1048576) :
    Ev (fun j => spec_EncodeRecord.f j k c r) (if 0 ≤ k ∧ k ≤ 59 ∧ RecordOk c r then (lineOf k.toNat c r, true) else ((⟨#[]⟩ : ByteArray), false)) := by
  unfold spec_EncodeRecord.f
  rw [in_iff]
  refine Ev.bind (Ev.now _) ?_
  by_cases g : 0 ≤ k ∧ k ≤ 59
  · simp only [decide_eq_true g, if_true]
    refine Ev.bind (specRecord_ev c r hc hr) ?_
    by_cases g1 : RecordOk c r
    · rw [if_pos ⟨g.1, g.2, g1⟩]
      obtain ⟨k, rfl⟩ := Int.eq_ofNat_of_zero_le g.1
      simp only [decide_eq_true g1, if_true, Int.toNat_natCast]
      exact Ev.bind (specLine_ev (by omega) g1) (Ev.now _)
    · rw [if_neg fun x => g1 x.2.2]
      simp only [decide_eq_false g1, Bool.false_eq_true, if_false]
      exact Ev.now _
  · rw [if_neg fun x => g ⟨x.1, x.2.1⟩]
    simp only [decide_eq_false g, Bool.false_eq_true, if_false]
    exact Ev.now _
theorem vRecords_same (l : List S27) (hl : l.length ≤ 1048576) : Ev (fun k => laws_vRecords.f k l l) true := by
  unfold laws_vRecords.f
  simp only [if_true]
  refine Ev.check (F := fun k i => laws_vRecords.l0 k l l i) (n := l.length) (fun _ => True) (X := True) (Y := True) (by simp) ?_ ?_ ?_
  · refine Ev.step (fun k => by rw [laws_vRecords.l0]) ?_
    simp only [if_neg (show ¬ ((l.length : Int) < l.length) by omega)]
    exact Ev.now _
  · intro i hi _ r ih
    refine Ev.step (fun k => by rw [laws_vRecords.l0]) ?_
    simp only [if_pos (show (i : Int) < l.length by omega), if_pos (show (0 : Int) ≤ i by omega), wrap_succ hi (show l.length ≤ 140737488351232 by omega), beq_self_eq_true, Bool.not_true, Bool.or_self, Bool.false_eq_true, if_false]
    exact ih
  · intro i hi g
    exact absurd trivial g
theorem encode_both (k : Int) (c r : ByteArray) (hc : c.size ≤ 1048576) (hr : r.size ≤ 1048576) : ∃ x b, Ev (fun j => spec_EncodeRecord.f j k c r) (x, b) ∧ Ev (fun j => impl_EncodeRecord.f j k c r) (x, b) := by
  have h1 := specEncode_ev k c r hc hr
  have h2 := encode_ev k c r hc hr
  generalize (if 0 ≤ k ∧ k ≤ 59 ∧ RecordOk c r then (lineOf k.toNat c r, true) else ((⟨#[]⟩ : ByteArray), false)) = x at h1 h2
  obtain ⟨x, b⟩ := x
  exact ⟨x, b, h1, h2⟩
theorem isRecord_ev (c r : ByteArray) (hc : c.size ≤ 1048576) (hr : r.size ≤ 1048576) : Ev (fun k => spec_IsValidRecord.f k c r) (decide (RecordOk c r)) := by
  unfold spec_IsValidRecord.f
  exact Ev.bind (specRecord_ev c r hc hr) (Ev.now _)
theorem isLog_ev (d p : ByteArray) (n : Int) (z1 : d.size ≤ 1048576) (z2 : p.size ≤ 1048576) : Ev (fun k => spec_IsValidLog.f k d p n) (decide (ValidLog d p n)) := by
  unfold spec_IsValidLog.f
  exact Ev.bind (specValid_ev d p n z1 z2) (Ev.now _)
/-- The last step: what was appended is read as the last record, or nothing was changed. -/
theorem last_ev (d p x y c r : ByteArray) (n m q : Int) (all : List S27) (z1 : d.size ≤ 100000) (z2 : p.size ≤ 100000)
    (ha : (¬ q = 0 ∧ x = d ∧ y = p ∧ m = n) ∨ (q = 0 ∧ x = d ∧ ∃ j : Nat, n = j ∧ j < 60 ∧ ValidLog d p j ∧ RecordOk c r ∧ y = p ++ lineOf j c r ∧ m = (j : Int) + 1))
    (hr : ValidLog d p n → Reads 0 (L (d ++ p)) all []) : Ev (fun k => laws_FnLogs.j6 k q all d p n c r x y m) true := by
  refine Ev.step (fun k => by rw [laws_FnLogs.j6]) ?_
  rcases ha with ⟨hq, rfl, rfl, rfl⟩ | ⟨hq, rfl, j, rfl, hj, hv, hc, rfl, rfl⟩
  · simp only [if_neg hq, beq_self_eq_true, Bool.and_self]
    exact Ev.now _
  · simp only [if_pos hq]
    obtain ⟨e, hv2, hr2⟩ := ValidLog.more hv (hr hv) hj hc
    have hz := hv2.1
    generalize lineOf j c r = t at hv2 hr2 hz
    obtain ⟨a, b, _, h2, _, h3⟩ := records_full x (p ++ t) ((j : Int) + 1) (by omega) (by omega)
    obtain ⟨rfl, h4⟩ := h3 hv2
    obtain ⟨rfl, _⟩ := h4.unique hr2
    refine Ev.bind h2 ?_
    refine Ev.bind (implValid_ev x (p ++ t) ((j : Int) + 1) (by omega) (by omega)) ?_
    have el : (((all ++ [(⟨c, r⟩ : S27)]).length : Nat) : Int) = wrap64 ((all.length : Int) + 1) := by
      rw [wrap_of (by omega) (by omega), List.length_append]; rfl
    have el2 : (all.length : Int) ≤ (((all ++ [(⟨c, r⟩ : S27)]).length : Nat) : Int) := by rw [List.length_append]; omega
    have el3 : (all.length : Int) < (((all ++ [(⟨c, r⟩ : S27)]).length : Nat) : Int) := by rw [List.length_append]; simp only [List.length_singleton]; omega
    have et : (all ++ [(⟨c, r⟩ : S27)]).take all.length = all := by simp
    have er : rd_T27 (all ++ [(⟨c, r⟩ : S27)]) (all.length : Int) = (⟨c, r⟩ : S27) := by unfold rd_T27; simp
    simp only [decide_eq_true hv2, if_true, if_pos el, if_pos (show (0 : Int) ≤ (all.length : Int) by omega), if_pos el2, Int.toNat_natCast, et]
    refine Ev.bind (vRecords_same all (by omega)) ?_
    simp only [if_true, if_pos el3, er, beq_self_eq_true, Bool.and_self]
    exact Ev.now _
theorem FnLogs : laws_FnLogs.Pure := by
  intro l _ _ hw
  have hb : Bytes l := by
    intro x hx
    have h := hw x hx
    simp [Lit.wf, IntKind.min, IntKind.max, IntKind.signed, IntKind.bits] at h
    omega
  have main : Ev (fun k => laws_FnLogs.f k l) true := by
    unfold laws_FnLogs.f laws_vBig.f
    refine Ev.bind (Ev.now _) ?_
    by_cases g : (l.length : Int) > 65536
    · simp only [decide_eq_true g, if_true]; exact Ev.now _
    simp only [decide_eq_false g, Bool.false_eq_true, if_false]
    have hl : l.length ≤ 65536 := by omega
    refine Ev.step (fun k => by rw [laws_FnLogs.j0]) ?_
    obtain ⟨c0, r0, s0, e0, hc0, zc0, zr0, _⟩ := logRecord_ex hb (by omega) 0 0 (by decide) (by decide)
    have d0 : spec_DrawIsValidRecord.f l = some (c0, r0) := by unfold spec_DrawIsValidRecord.f; rw [hc0]; rfl
    rw [d0]
    refine Ev.bind (Ev.now _) ?_
    obtain ⟨l1, hl1, hb1, zl1⟩ := cut_ex hb hl 1 (by decide) (by decide)
    rw [hl1]
    refine Ev.bind (Ev.now _) ?_
    obtain ⟨n1, s1, e1, hn1, b1, b2⟩ := among_ex hb1 zl1 0 0 (by decide) (by decide) [0, 1, 12, 59, 60, (-1)] (by decide)
    obtain ⟨c1, r1, s2, e2, hc1, zc1, zr1, _⟩ := logRecord_ex hb1 zl1 s1 e1 (by omega) (by omega)
    have d1 : spec_DrawEncodeRecord.f l1 = some (n1, c1, r1) := by unfold spec_DrawEncodeRecord.f; rw [hn1, Option.bind_some]; simp only [hc1]; rfl
    rw [d1]
    refine Ev.bind (Ev.now _) ?_
    obtain ⟨x1, q1, k1, k2⟩ := encode_both n1 c1 r1 (by omega) (by omega)
    refine Ev.bind k2 ?_
    refine Ev.bind k1 ?_
    obtain ⟨l2, hl2, hb2, zl2⟩ := cut_ex hb hl 2 (by decide) (by decide)
    rw [hl2]
    refine Ev.bind (Ev.now _) ?_
    obtain ⟨d2, p2, n2, k3, z1, z2⟩ := drawValid_ex hb2 zl2
    refine Ev.bind k3 ?_
    obtain ⟨l3, hl3, hb3, zl3⟩ := cut_ex hb hl 3 (by decide) (by decide)
    rw [hl3]
    refine Ev.bind (Ev.now _) ?_
    obtain ⟨d, p, n, c, r, k4, z3, z4, z5, z6⟩ := drawAppend_ex hb3 zl3
    refine Ev.bind k4 ?_
    obtain ⟨x, y, m, q, k5, k6, ha⟩ := append_full d p n c r (by omega) (by omega) (by omega) (by omega)
    refine Ev.bind k6 ?_
    refine Ev.bind k5 ?_
    refine Ev.bind (implRecord_ev c0 r0 (by omega) (by omega)) ?_
    refine Ev.bind (isRecord_ev c0 r0 (by omega) (by omega)) ?_
    simp only [bne_self_eq_false, Bool.false_eq_true, if_false, if_true]
    refine Ev.bind (implValid_ev d2 p2 n2 (by omega) (by omega)) ?_
    refine Ev.bind (isLog_ev d2 p2 n2 (by omega) (by omega)) ?_
    simp only [bne_self_eq_false, beq_self_eq_true, Bool.not_true, Bool.or_self, Bool.false_eq_true, if_false]
    refine Ev.step (fun k => by rw [laws_FnLogs.j1]) ?_
    simp only [Bool.false_eq_true, if_false]
    refine Ev.step (fun k => by rw [laws_FnLogs.j2]) ?_
    obtain ⟨a1, a2, a3, a4, k7, k8, hs⟩ := sync_full d p n (by omega) (by omega)
    refine Ev.bind k8 ?_
    refine Ev.bind k7 ?_
    obtain ⟨all, ok, k9, k10, hf, hr⟩ := records_full d p n (by omega) (by omega)
    refine Ev.bind k10 ?_
    refine Ev.bind k9 ?_
    simp only [bne_self_eq_false, beq_self_eq_true, Bool.not_true, Bool.or_self, Bool.false_eq_true, if_false]
    refine Ev.bind (vRecords_same all (by omega)) ?_
    simp only [Bool.not_true]
    refine Ev.step (fun k => by rw [laws_FnLogs.j3]) ?_
    simp only [Bool.false_eq_true, if_false]
    refine Ev.step (fun k => by rw [laws_FnLogs.j4]) ?_
    have za : a1.size ≤ 1048576 ∧ a2.size ≤ 1048576 := by
      rcases hs with ⟨_, hv, rfl, rfl, _⟩ | ⟨_, _, rfl, rfl⟩
      · have := hv.1
        exact ⟨by rw [size_join]; omega, by decide⟩
      · exact ⟨by decide, by decide⟩
    obtain ⟨all2, ok2, _, k11, _, hr2⟩ := records_full a1 a2 a3 za.1 za.2
    refine Ev.bind k11 ?_
    have h5 : Ev (fun k => laws_FnLogs.j5 k q all false d p n c r x y m) true := by
      refine Ev.step (fun k => by rw [laws_FnLogs.j5]) ?_
      simp only [Bool.false_eq_true, if_false]
      exact last_ev d p x y c r n m q all z3 z4 ha fun v => (hr v).2
    rcases hs with ⟨rfl, hv, rfl, rfl, rfl⟩ | ⟨rfl, _, _, _⟩
    · simp only [if_true]
      have v2 := hv.synced
      have g1 := (hr2 v2.1).2
      rw [v2.2] at g1
      obtain ⟨rfl, _⟩ := g1.unique (hr hv).2
      refine Ev.bind (vRecords_same all2 (by omega)) ?_
      simp only [Bool.not_true]
      exact h5
    · simp only [Bool.false_eq_true, if_false]
      exact h5
  obtain ⟨K, hK⟩ := main
  exact ⟨K, hK K (Nat.le_refl _)⟩
end Go.Proofs.YtklolnaonampeaaDoor.Pure
