import Derived.Test.YtklolnaonampeaaPFnExactIsValidRecordx
namespace Go.Proofs.Ytklolnaonampeaa.Pure
open Go.RowKit Go.Lib Go.Proofs.Ytklolnaonampeaa.PFnExactIsValidRecord Go.Proofs.YtklolnaonampeaaW.PrintWords Go.Proofs.YtklolnaonampeaaW.PrintLast

theorem wrap_of {x : Int} (h0 : -9223372036854775808 ≤ x) (h1 : x ≤ 9223372036854775807) : wrap64 x = x := by unfold wrap64; omega
theorem wrap_bt (s : ByteArray) (i : Int) : wrap64 (bt s i) = bt s i := by have := bt_range s i; exact wrap_of (by omega) (by omega)

/-- Both loops over a text answer alike. -/
theorem plain_same (s : ByteArray) (m : Int) (hs : s.size ≤ 140737488351232) (d : Nat) : ∀ i : Nat, i ≤ s.size → s.size - i = d →
    ∃ r, Ev (fun k => spec_l12Bytes.l0 k s m i) r ∧ Ev (fun k => impl_isPlain.l0 k s m s.size i) r := by
  induction d with
  | zero =>
    intro i hi hd
    have hlt : ¬ ((i : Int) < s.size) := by omega
    refine ⟨decide ((s.size : Int) ≤ m), ⟨1, fun k hk => ?_⟩, ⟨1, fun k hk => ?_⟩⟩ <;>
    · obtain ⟨k, rfl⟩ : ∃ j, k = j + 1 := ⟨k - 1, by omega⟩
      simp only [spec_l12Bytes.l0, impl_isPlain.l0]; rw [if_neg hlt]
  | succ d ih =>
    intro i hi hd
    have hlt : (i : Int) < s.size := by omega
    have h0 : (0 : Int) ≤ i := by omega
    have hw : wrap64 ((i : Int) + 1) = ((i + 1 : Nat) : Int) := by rw [wrap_of (by omega) (by omega)]; rfl
    obtain ⟨r, h1, h2⟩ := ih (i + 1) (by omega) (by omega)
    have e1 : ∀ k, spec_l12Bytes.l0 (k + 1) s m i = if 32 ≤ bt s i ∧ bt s i ≤ 126 ∧ bt s i ≠ 35 then spec_l12Bytes.l0 k s m ((i + 1 : Nat) : Int) else some false := by
      intro k
      simp only [spec_l12Bytes.l0]
      rw [if_pos hlt, if_pos h0, wrap_bt, hw]
      unfold spec_l1In.f
      by_cases a : bt s i ≥ 32
      · rw [if_pos a]; simp only [Option.bind_some]
        by_cases b : bt s i ≤ 126
        · rw [if_pos (by simpa using b)]
          by_cases c : bt s i = 35
          · rw [if_pos c, if_neg (by omega)]
          · rw [if_neg c, if_pos ⟨by omega, b, c⟩]
        · rw [if_neg (by simpa using b), if_neg (by omega)]
      · rw [if_neg a]; simp only [Option.bind_some]; rw [if_neg (by simp), if_neg (by omega)]
    have e2 : ∀ k, impl_isPlain.l0 (k + 1) s m s.size i = if 32 ≤ bt s i ∧ bt s i ≤ 126 ∧ bt s i ≠ 35 then impl_isPlain.l0 k s m s.size ((i + 1 : Nat) : Int) else some false := by
      intro k
      simp only [impl_isPlain.l0]
      rw [if_pos hlt, if_pos h0, if_pos hlt, hw]
      by_cases a : bt s i < 32
      · rw [if_pos a, if_neg (by omega)]
      · rw [if_neg a]
        by_cases b : bt s i > 126
        · rw [if_pos b, if_neg (by omega)]
        · rw [if_neg b]
          by_cases c : bt s i = 35
          · rw [if_pos c, if_neg (by omega)]
          · rw [if_neg c, if_pos ⟨by omega, by omega, c⟩]
    by_cases g : 32 ≤ bt s i ∧ bt s i ≤ 126 ∧ bt s i ≠ 35
    · exact ⟨r, Ev.step (fun k => by rw [e1, if_pos g]) h1, Ev.step (fun k => by rw [e2, if_pos g]) h2⟩
    · exact ⟨false, Ev.step (fun k => by rw [e1, if_neg g]) (Ev.now false), Ev.step (fun k => by rw [e2, if_neg g]) (Ev.now false)⟩

theorem bt_get (s : ByteArray) (i : Nat) (h : i < s.data.toList.length) : bt s i = (s.data.toList[i].toNat : Int) := by
  have h' : i < s.size := by simpa using h
  have := bt_at s (i : Int) (by simpa using h')
  rw [← this]; rfl

theorem indexByte_mem (l : List UInt8) (c : UInt8) : (0 ≤ Lib.indexByte l c) ↔ c ∈ l := by
  induction l with
  | nil => simp [Lib.indexByte]
  | cons b l ih =>
    unfold Lib.indexByte
    have hg := Lib.indexByte_ge l c
    by_cases h : b = c
    · subst h; simp
    · have h1 : (b == c) = false := by simpa using h
      rw [h1]; simp only [Bool.false_eq_true, if_false]
      by_cases e : Lib.indexByte l c = -1
      · have : ¬ c ∈ l := fun hm => by have := ih.2 hm; omega
        simp [e, this, Ne.symm h]
      · have : c ∈ l := ih.1 (by omega)
        simp only [beq_iff_eq, e, if_false, List.mem_cons, this, or_true, iff_true]; omega

/-- The reference's search of a byte. -/
theorem stands (s : ByteArray) (c : UInt8) (hs : s.size ≤ 140737488351232) (d : Nat) : ∀ i : Nat, i ≤ s.size → s.size - i = d →
    Ev (fun k => spec_l1Stands.l0 k s c.toNat i) (decide (c ∈ s.data.toList.drop i)) := by
  induction d with
  | zero =>
    intro i hi hd
    have hlt : ¬ ((i : Int) < s.size) := by omega
    have e : s.data.toList.drop i = [] := List.drop_eq_nil_of_le (by simp; omega)
    rw [e]
    refine ⟨1, fun k hk => ?_⟩
    obtain ⟨k, rfl⟩ : ∃ j, k = j + 1 := ⟨k - 1, by omega⟩
    simp only [spec_l1Stands.l0]; rw [if_neg hlt]; simp
  | succ d ih =>
    intro i hi hd
    have hlt : (i : Int) < s.size := by omega
    have h0 : (0 : Int) ≤ i := by omega
    have hl : i < s.data.toList.length := by simp; omega
    have hw : wrap64 ((i : Int) + 1) = ((i + 1 : Nat) : Int) := by rw [wrap_of (by omega) (by omega)]; rfl
    rw [List.drop_eq_getElem_cons hl]
    by_cases g : s.data.toList[i] = c
    · refine Ev.step (f := fun _ => some _) (fun k => ?_) (Ev.now _)
      simp only [spec_l1Stands.l0]
      rw [if_pos hlt, if_pos h0, bt_get s i hl, g, if_pos rfl]; simp
    · have e : decide (c ∈ s.data.toList[i] :: s.data.toList.drop (i + 1)) = decide (c ∈ s.data.toList.drop (i + 1)) := by rw [decide_eq_decide, List.mem_cons]; exact ⟨fun h => h.elim (fun h => absurd h.symm g) id, .inr⟩
      rw [e]
      refine Ev.step (fun k => ?_) (ih (i + 1) (by omega) (by omega))
      simp only [spec_l1Stands.l0]
      rw [if_pos hlt, if_pos h0, bt_get s i hl, if_neg (fun h => g (UInt8.toNat_inj.1 (by omega))), hw]

theorem record_same (a b : ByteArray) (ha : a.size ≤ 140737488351232) (hb : b.size ≤ 140737488351232) :
    ∃ r, Ev (fun k => spec_IsValidRecord.f k a b) r ∧ Ev (fun k => impl_IsValidRecord.f k a b) r := by
  obtain ⟨r1, h1, g1⟩ := plain_same a 160 ha a.size 0 (by omega) (by omega)
  obtain ⟨r2, h2, g2⟩ := plain_same b 200 hb b.size 0 (by omega) (by omega)
  have h3 := stands a 64 ha a.size 0 (by omega) (by omega)
  simp only [List.drop_zero] at h3
  have h4 : strings_Contains.f a ⟨#[64]⟩ = some (decide ((64 : UInt8) ∈ a.data.toList)) := by
    unfold strings_Contains.f
    rw [if_pos (show (⟨#[64]⟩ : ByteArray).data.size = 1 from rfl)]
    exact congrArg some (decide_eq_decide.2 (indexByte_mem _ _))
  by_cases e : a.toList = ([] : List UInt8)
  · refine ⟨false, ⟨0, fun k _ => ?_⟩, ⟨0, fun k _ => ?_⟩⟩
    · simp only [spec_IsValidRecord.f, spec_l12Record.f, if_pos e, Option.bind_some]
    · simp only [impl_IsValidRecord.f, if_pos e]
  · refine ⟨r1 && r2 && !decide ((64 : UInt8) ∈ a.data.toList), ?_, ?_⟩
    · obtain ⟨K1, h1⟩ := h1; obtain ⟨K2, h2⟩ := h2; obtain ⟨K3, h3⟩ := h3
      refine ⟨max K1 (max K2 K3), fun k hk => ?_⟩
      have h1 : spec_l12Bytes.f k a 160 = some r1 := h1 k (by omega)
      have h2 : spec_l12Bytes.f k b 200 = some r2 := h2 k (by omega)
      have h3 : spec_l1Stands.f k a 64 = _ := h3 k (by omega)
      simp only [spec_IsValidRecord.f, spec_l12Record.f, if_neg e, h1, h2, h3, Option.bind_some]
      cases r1 <;> cases r2 <;> cases decide ((64 : UInt8) ∈ a.data.toList) <;> rfl
    · obtain ⟨K1, h1⟩ := g1; obtain ⟨K2, h2⟩ := g2
      refine ⟨max K1 K2, fun k hk => ?_⟩
      have h1 : impl_isPlain.f k a 160 = some r1 := h1 k (by omega)
      have h2 : impl_isPlain.f k b 200 = some r2 := h2 k (by omega)
      simp only [impl_IsValidRecord.f, if_neg e, h1, h2, h4, Option.bind_some]
      cases r1 <;> cases r2 <;> cases decide ((64 : UInt8) ∈ a.data.toList) <;> rfl

theorem FnExactIsValidRecord (a b : ByteArray) (ha : a.size ≤ 140737488351232) (hb : b.size ≤ 140737488351232) : ∃ k, laws_FnExactIsValidRecord.f k a b = some true := by
  obtain ⟨r, ⟨K1, h1⟩, ⟨K2, h2⟩⟩ := record_same a b ha hb
  refine ⟨max K1 K2, ?_⟩
  have h1 := h1 (max K1 K2) (by omega)
  have h2 := h2 (max K1 K2) (by omega)
  unfold laws_FnExactIsValidRecord.f
  have hz : ∃ t, laws_szLogRecord.f a b 1048576 = some t := by unfold laws_szLogRecord.f; (repeat' split) <;> exact ⟨_, rfl⟩
  obtain ⟨t, ht⟩ := hz
  rw [ht]; simp only [Option.bind_some]
  by_cases g : t < 0
  · rw [if_pos g]
  · rw [if_neg g]
    simp only [laws_toLogRecord.f, Option.bind_some, h1, h2]
    simp
end Go.Proofs.Ytklolnaonampeaa.Pure
