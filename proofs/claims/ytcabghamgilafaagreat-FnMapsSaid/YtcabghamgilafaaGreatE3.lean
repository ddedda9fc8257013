/-
 An evaluator of the code over typed data, proved sound once (part 3 of 4).
-/
import Derived.Test.YtcabghamgilafaaGreatE2
import Derived.Tactics
import Derived.OrdersHeld
import Derived.LoopN
import Derived.Sort.Grow
import Derived.Lib.SlicesCompact
import Derived.Laws.AppendOwn
set_option linter.unusedVariables false
set_option linter.unusedSimpArgs false
namespace Go.Ve
open Go Go.RowKit
section
variable {P : Program} {g0 : Gh} {w0 : Fra} {N : Nat} {s s2 : St} {g g2 : Gh} {a : Act} {w w' : World} {α : Type} {r : α} {Q : Exit → Act → World → Prop}
theorem wp_others {o : Oper} {next : Act → World → Prop} (h : o.wp P a w next Q) : o.wp P a w (fun a' w' => (∀ u, o.dst ≠ some u → a'.tmps.getD u undef = a.tmps.getD u undef) ∧ a'.tmps.size = a.tmps.size ∧ next a' w') Q := by
 have put : ∀ (b : Act) (v : Value), b.tmps = a.tmps → (∀ u, o.dst ≠ some u → (b.put o.dst v).tmps.getD u undef = a.tmps.getD u undef) ∧ (b.put o.dst v).tmps.size = a.tmps.size := by
  intro b v hb
  cases hd : o.dst with
  | none => exact ⟨fun u _ => by simp [Act.put, hb], by simp [Act.put, hb]⟩
  | some d =>
   refine ⟨fun u hu => ?_, by simp [Act.put, hb]⟩
   have : d ≠ u := fun e => hu (by rw [e])
   simp [Act.put, hb, Array.getElem?_setIfInBounds_ne this]
 unfold Oper.wp Oper.upon at h ⊢
 split at h
 · exact ⟨(put a _ rfl).1, (put a _ rfl).2, h⟩
 · exact ⟨(put a _ rfl).1, (put a _ rfl).2, h⟩
 · rename_i d w' _
   exact ⟨(put { a with defers := d :: a.defers } undef rfl).1, (put { a with defers := d :: a.defers } undef rfl).2, h⟩
 · refine h.mono fun e w' he => ?_
   cases e <;> first | exact ⟨(put a _ rfl).1, (put a _ rfl).2, he⟩ | exact he
 · exact h.mono fun v w' he => ⟨(put a _ rfl).1, (put a _ rfl).2, he⟩
 · exact h
 · exact h.elim
theorem wp_next' {o : Oper} {n1 n2 : Act → World → Prop} (k : o.wp P a w n1 Q) (h : ∀ a w, n1 a w → n2 a w) : o.wp P a w n2 Q := by
 unfold Oper.wp Oper.upon at k ⊢
 split at k
 · exact h _ _ k
 · exact h _ _ k
 · exact h _ _ k
 · refine k.mono fun e w' he => ?_
   cases e <;> first | exact h _ _ he | exact he
 · exact k.mono fun v w' he => h _ _ he
 · exact k
 · exact k.elim
theorem TC.keep {sg sg' : Id → Option Sig} {g' : Gh} {w w' : World} (hl : Keeps g w g' w') : ∀ (v : TV) (t : Ty) (cs : List Value), (∀ id, v.looks false id = true → Fits g g' sg sg' id) → TC g w sg v t cs → TC g' w' sg' v t cs
 | .val v, t, cs, _, ⟨h1, h2⟩ => ⟨h1, SRep.keep hl _ _ _ h2⟩
 | .nil, .list t, cs, _, h => h
 | .ref id p, .list t, cs, hf, ⟨h1, h2⟩ => by
  have f := hf id (by simp [TV.looks, sameId_eq])
  exact ⟨by rw [f.hdr]; exact h1, fun s hs => ⟨(h2 s (f.sig s hs)).1, (h2 s (f.sig s hs)).2.congr f.hdr f.base⟩⟩
 | .sub id p lo hi, .list t, cs, hf, ⟨h1, h2, h3⟩ => by
  have f := hf id (by simp [TV.looks, sameId_eq])
  exact ⟨fun s hs => ⟨(h1 s (f.sig s hs)).1, (h1 s (f.sig s hs)).2.congr f.hdr f.base⟩, h2, by rw [f.hdr]; exact h3⟩
 | .pr a b, .prod ta tb, cs, hf, ⟨c, d, e, l1, l2, h1, h2⟩ =>
  ⟨c, d, e, l1, l2, TC.keep hl a ta c (fun id h => hf id (by simp [TV.looks, h])) h1, TC.keep hl b tb d (fun id h => hf id (by simp [TV.looks, h])) h2⟩
 | .dead, t, cs, _, h => by cases t <;> exact h
theorem TRep1.keep {sg sg' : Id → Option Sig} {g' : Gh} {w w' : World} (hl : Keeps g w g' w') (v : TV) (mv : Value) (hn : ∀ u, v ≠ .saddr u) (hn2 : ∀ B, v ≠ .tad B) (hf : ∀ id, v.looks false id = true → Fits g g' sg sg' id) (h : TRep1 g w sg v mv) : TRep1 g' w' sg' v mv := by
 cases v with
 | dead => trivial
 | nil => exact h
 | val v => obtain ⟨cs, h1, h2⟩ := h; exact ⟨cs, SRep.keep hl _ _ _ h1, h2⟩
 | addr id p =>
  have f := hf id (by simp [TV.looks, sameId_eq])
  obtain ⟨a, h1, h2⟩ := h
  exact ⟨a, h1, fun s hs => (h2 s (f.sig s hs)).congr f.hdr f.base⟩
 | saddr v => exact absurd rfl (hn v)
 | tad A => exact absurd rfl (hn2 A)
 | fn f =>
  have : (f.caps.map fun i => Value.pointer (some (g.base i))) = f.caps.map fun i => Value.pointer (some (g'.base i)) :=
   List.map_congr_left fun i hi => by rw [(hf i (by simp only [TV.looks, Bool.not_false, Bool.true_and, List.any_eq_true]; exact ⟨i, hi, sameId_eq.2 rfl⟩)).base]
  simp only [TRep1, FnVal] at h ⊢
  rw [h, this]
 | nilfn => exact h
 | tup l => exact h.elim
 | ref id p => obtain ⟨t, cs, h1, h2⟩ := h; exact ⟨t, cs, h1.keep hl _ _ _ hf, h2⟩
 | sub id p lo hi => obtain ⟨t, cs, h1, h2⟩ := h; exact ⟨t, cs, h1.keep hl _ _ _ hf, h2⟩
 | pr a b => obtain ⟨t, cs, h1, h2⟩ := h; exact ⟨t, cs, h1.keep hl _ _ _ hf, h2⟩
theorem hasSaddr_mem : ∀ {l : List TV} {A : TV}, hasSaddr l = false → A ∈ l → (∀ u, A ≠ .saddr u) ∧ ∀ B, A ≠ .tad B
 | B :: l, A, h, hm => by
  have h' : hasSaddr l = false := by
   cases B <;> simp only [hasSaddr] at h <;> first | exact h | (exact absurd h (by decide))
  rcases List.mem_cons.1 hm with e | hm
  · subst e
    exact ⟨fun u e => by subst e; simp [hasSaddr] at h, fun u e => by subst e; simp [hasSaddr] at h⟩
  · exact hasSaddr_mem h' hm
theorem homeNew_rep {id : Id} {sg sg' : Id → Option Sig} {g' : Gh} {w : World} (hk : Keeps g w g' w) (hf : ∀ i, i ≠ id → i ≠ nestId → Fits g g' sg sg' i) {A : TV} {mv : Value} (h : TRep g w sg A mv) : TRep g' w sg' (homeNew id A) mv := by
 have fit : ∀ B : TV, (B.looks false id || B.looks false nestId) = false → ∀ i, B.looks false i = true → Fits g g' sg sg' i := fun B hB i hi => by
  simp only [Bool.or_eq_false_iff] at hB
  exact hf i (fun e => by subst e; rw [hB.1] at hi; cases hi) (fun e => by subst e; rw [hB.2] at hi; cases hi)
 have one : ∀ B : TV, (∀ l, B ≠ .tup l) → (∀ u, B ≠ .saddr u) → (∀ C, B ≠ .tad C) → TRep g w sg B mv → TRep g' w sg' (bif B.looks false id || B.looks false nestId then .dead else B) mv := by
  intro B hnt hns hna hB
  cases hc : (B.looks false id || B.looks false nestId)
  · have h1 : TRep1 g w sg B mv := by cases B <;> first | exact hB | exact absurd rfl (hnt _)
    have h2 := TRep1.keep hk B mv hns hna (fit B hc) h1
    cases B <;> first | exact h2 | exact absurd rfl (hnt _)
  · trivial
 cases A with
 | saddr u => trivial
 | tad A => trivial
 | tup l =>
  simp only [homeNew]
  cases hc : (hasSaddr l || ((TV.tup l).looks false id || (TV.tup l).looks false nestId))
  · simp only [Bool.or_eq_false_iff] at hc
    obtain ⟨vs, h1, h2⟩ := h
    refine ⟨vs, h1, All2.imp (fun B hB b k => TRep1.keep hk B b (hasSaddr_mem hc.1 hB).1 (hasSaddr_mem hc.1 hB).2 (fun i hi => ?_) k) h2⟩
    exact fit (.tup l) (by simp [hc.2.1, hc.2.2]) i (by simpa [TV.looks] using looksAny_mem hB hi)
  · trivial
 | dead => exact one .dead (by simp) (by simp) (by simp) h
 | nil => exact one .nil (by simp) (by simp) (by simp) h
 | val v => exact one (.val v) (by simp) (by simp) (by simp) h
 | ref i p => exact one (.ref i p) (by simp) (by simp) (by simp) h
 | sub i p l k => exact one (.sub i p l k) (by simp) (by simp) (by simp) h
 | addr i p => exact one (.addr i p) (by simp) (by simp) (by simp) h
 | fn f => exact one (.fn f) (by simp) (by simp) (by simp) h
 | nilfn => exact one .nilfn (by simp) (by simp) (by simp) h
 | pr x y => exact one (.pr x y) (by simp) (by simp) (by simp) h
def _root_.Go.Ve.Gh.aside (g : Gh) (id : Id) : Gh where
 hdr := g.hdr
 base := g.base
 own b := match g.own b with
  | some (some i, r) => if i = id then some (none, none) else some (some i, r)
  | o => o
def unasideGh (g g2 : Gh) (id : Id) : Gh where
 hdr i z := if i = some id then g.hdr i z else g2.hdr i z
 base i := if i = id then g.base i else g2.base i
 own b := match g.own b with
  | some (some i, r) => if i = id then some (some i, r) else un (g2.own b)
  | _ => un (g2.own b)
where un : Option (RId × Option (List Step)) → Option (RId × Option (List Step))
 | some (some i, r) => if i = id then none else some (some i, r)
 | o => o
theorem aside_le {id : Id} : Le g w (g.aside id) w := ⟨rfl, rfl, rfl, Nat.le_refl _, fun b _ h => ⟨rfl, by simp [Gh.aside, h]⟩, fun b _ h => ⟨rfl, by simp [Gh.aside, h]⟩⟩
theorem aside_same {id i : Id} (h : i ≠ id) : Same g w (g.aside id) w (some i) := ⟨fun _ => rfl, fun _ _ => rfl, fun b r e => ⟨rfl, by simp [Gh.aside, e, h]⟩⟩
theorem aside_lives {id : Id} (h : ∀ b o, g.own b = some o → b < w.heap.size) : ∀ b o, (g.aside id).own b = some o → b < w.heap.size := by
 intro b o e
 cases k : g.own b with
 | none => simp [Gh.aside, k] at e
 | some o' => exact h b o' k
theorem aside_obj {id i : Id} {b : Ob} (e : (s.aside id).obj i = some b) : s.obj i = some b ∧ i ≠ id := by
 have := (purge_drop (s := s) (id := id)).2 i b e
 exact ⟨this.1, this.2.1⟩
theorem aside_sig {id i : Id} {x : Sig} (e : (s.aside id).sig i = some x) : s.sig i = some x := by
 simp only [St.sig] at e ⊢
 cases h : (s.aside id).obj i with
 | none => rw [h] at e; cases e
 | some b => rw [(aside_obj h).1]; rw [h] at e; exact e
theorem aside_fits {id i : Id} : Fits g (g.aside id) s.sig (s.aside id).sig i := ⟨fun _ => rfl, rfl, fun _ e => aside_sig e⟩
theorem hl_other {id i : Id} {q : List Step} (hq : s.hole = some (id, q)) (h : i ≠ id) (p : List Step) : ¬ s.hl = some (some i, p) := by
 intro e
 simp only [St.hl, hq, Option.map_some, Option.some.injEq, Prod.mk.injEq] at e
 exact h e.1.symm
theorem R.aside (h : R g0 w0 N s g a w) {id : Id} {q : List Step} (hq : s.hole = some (id, q)) : R g0 (w0.and (g.aside id) w) N (s.aside id) (g.aside id) a w where
 frame := ⟨h.frame.trans aside_le, Le.refl _ _⟩
 tmps u := by
  show TRep _ w _ (((s.purge id).drop id).tmp u) _
  rcases (purge_drop (s := s) (id := id)).1 u with e | e
  · rw [e]; exact TRep.le aside_le _ _ (fun i _ => aside_fits) (h.tmps u)
  · rw [e]; trivial
 objs i b e := by
  obtain ⟨k1, k2⟩ := aside_obj e
  exact RootRep.same aside_le (aside_same k2) (fun p => ⟨(fun e => by cases e), fun e => absurd e (hl_other hq k2 p)⟩) b (fun _ _ _ _ => rfl) (h.objs i b k1)
 lives := aside_lives h.lives
 defers := h.defers
 size := h.size
 small := h.small
 ext i b e hi := h.ext i b (aside_obj e).1 hi
theorem only_looks {id i : Id} : ∀ (A : TV), only id A = true → A.looks false i = true → i = id
 | .val _, _, h => by simp [TV.looks] at h
 | .nil, _, h => by simp [TV.looks] at h
 | .saddr _, _, h => by simp [TV.looks] at h
 | .ref j _, h, k => by
  simp only [only] at h
  simp only [TV.looks, Bool.not_false, Bool.true_or, Bool.and_true] at k
  exact (sameId_eq.1 k).symm.trans (sameId_eq.1 h)
 | .sub j _ _ _, h, k => by
  simp only [only] at h
  simp only [TV.looks, Bool.not_false, Bool.true_or, Bool.and_true] at k
  exact (sameId_eq.1 k).symm.trans (sameId_eq.1 h)
 | .addr j _, h, k => by
  simp only [only] at h
  simp only [TV.looks, Bool.not_false, Bool.true_or, Bool.and_true] at k
  exact (sameId_eq.1 k).symm.trans (sameId_eq.1 h)
 | .pr a b, h, k => by
  simp only [only, Bool.and_eq_true] at h
  simp only [TV.looks, Bool.or_eq_true] at k
  rcases k with k | k
  · exact only_looks a h.1 k
  · exact only_looks b h.2 k
 | .tad a, h, k => by
  simp only [only] at h
  simp only [TV.looks] at k
  exact only_looks a h k
 | .dead, h, _ => by simp [only] at h
 | .fn _, h, _ => by simp [only] at h
 | .nilfn, h, _ => by simp [only] at h
 | .tup _, h, _ => by simp [only] at h
theorem R.unaside {a' : Act} (h : R g0 w0 N s g a w) {id : Id} {q : List Step} (hq : s.hole = some (id, q)) {o : Ob} (ho : s.obj id = some o) {x : Mask × Val} (hroot : o.root = some x)
  (h2 : R g0 (w0.and (g.aside id) w) N s2 g2 a' w') (hh2 : s2.hole = none) {dst : Option Nat} (hoth : ∀ u, dst ≠ some u → a'.tmps.getD u undef = a.tmps.getD u undef) :
  R g0 w0 N (s.unaside s2 id o dst) (unasideGh g g2 id) a' w' := by
 have hL : Le (g.aside id) w g2 w' := h2.frame.2
 have rest : ∀ b r, g.own b = some (some id, r) → w'.heap[b]? = w.heap[b]? ∧ g2.own b = some (none, none) := fun b r hb => hL.hid b (h.lives b _ hb) (by simp [Gh.aside, hb])
 have ownRest : ∀ b r, g.own b = some (some id, r) → (unasideGh g g2 id).own b = some (some id, r) := fun b r hb => by simp [unasideGh, hb]
 have ownElse : ∀ b, (∀ r, g.own b ≠ some (some id, r)) → (unasideGh g g2 id).own b = unasideGh.un id (g2.own b) := fun b hb => by
  simp only [unasideGh]
  split
  · rename_i i r e
    rw [if_neg]
    rintro rfl
    exact hb r e
  · rfl
 have notRest : ∀ b x, g2.own b = x → x ≠ some (none, none) → ∀ r, g.own b ≠ some (some id, r) := fun b x e hx r hb => hx (by rw [← e]; exact (rest b r hb).2)
 have keepF : Keeps g2 w' (unasideGh g g2 id) w' := ⟨Nat.le_refl _, fun b _ e => ⟨rfl, by
  rw [ownElse b (notRest b _ e (by simp)), e]; rfl⟩⟩
 have leF : Le g w (unasideGh g g2 id) w' := by
  refine ⟨hL.os, hL.tape, hL.output, hL.size, fun b hb e => ?_, fun b hb e => ?_⟩
  · have := hL.keep b hb (by simp [Gh.aside, e])
    exact ⟨this.1, by rw [ownElse b (notRest b _ this.2 (by simp)), this.2]; rfl⟩
  · have := hL.hid b hb (by simp [Gh.aside, e])
    exact ⟨this.1, by rw [ownElse b (fun r hb' => by rw [hb'] at e; cases e), this.2]; rfl⟩
 have hdrF : ∀ i z, i ≠ id → (unasideGh g g2 id).hdr (some i) z = g2.hdr (some i) z := fun i z hi => by
  have : (some i : RId) ≠ some id := by simpa using hi
  simp [unasideGh, this]
 have hobF : ∀ i b, (s.unaside s2 id o dst).obj i = some b → (i = id ∧ b = o) ∨ (i ≠ id ∧ s2.obj i = some b ∧ ∀ f, b ≠ .fbox f) := by
  intro i b e
  simp only [St.unaside] at e
  cases h1 : sameId i id
  · simp only [h1, cond_false] at e
    have h1' : i ≠ id := fun e' => by rw [sameId_eq.2 e'] at h1; cases h1
    right
    cases hb : s2.obj i with
    | none => simp [hb] at e
    | some b' =>
     cases b' with
     | fbox f => simp [hb] at e
     | vec m t xs => simp only [hb, Option.some.injEq] at e; subst e; exact ⟨h1', rfl, by simp⟩
     | box m v => simp only [hb, Option.some.injEq] at e; subst e; exact ⟨h1', rfl, by simp⟩
  · simp only [h1, cond_true, Option.some.injEq] at e
    exact .inl ⟨sameId_eq.1 h1, e.symm⟩
 have hsigid : (s.unaside s2 id o dst).sig id = some o.sig := by simp [St.sig, St.unaside, sameId_eq.2 rfl]
 have hsgid : s.sig id = some o.sig := by simp [St.sig, ho]
 have hfits : ∀ i, i ≠ id → Fits g2 (unasideGh g g2 id) s2.sig (s.unaside s2 id o dst).sig i := fun i h1 => ⟨fun z => hdrF i z h1, by simp [unasideGh, h1], fun sg hs => by
  simp only [St.sig] at hs ⊢
  cases e : (s.unaside s2 id o dst).obj i with
  | none => simp [e] at hs
  | some b =>
   rcases hobF i b e with ⟨k, _⟩ | ⟨_, k, _⟩
   · exact absurd k h1
   · rw [k]; rw [e] at hs; exact hs⟩
 have hfitid : Fits g (unasideGh g g2 id) s.sig (s.unaside s2 id o dst).sig id := ⟨fun z => by simp [unasideGh], by simp [unasideGh], fun sg hs => by rw [hsigid] at hs; rw [hsgid]; exact hs⟩
 have hhl : (s.unaside s2 id o dst).hl = s.hl := rfl
 exact {
  frame := h.frame.trans leF
  tmps := fun u => by
   show TRep (unasideGh g g2 id) w' (s.unaside s2 id o dst).sig (bif !isDst dst u && only id (s.tmp u) then s.tmp u else homeNew id (s2.tmp u)) _
   cases hd : (!isDst dst u && only id (s.tmp u))
   · exact homeNew_rep keepF (fun i hi _ => hfits i hi) (h2.tmps u)
   · simp only [Bool.and_eq_true, Bool.not_eq_true'] at hd
     have hu : dst ≠ some u := fun e => by subst e; simp [isDst] at hd
     rw [hoth u hu]
     exact TRep.le leF _ _ (fun i hi => by rw [only_looks _ hd.2 hi]; exact hfitid) (h.tmps u)
  objs := fun i b e => by
   rw [hhl]
   rcases hobF i b e with ⟨rfl, rfl⟩ | ⟨k1, k3, k4⟩
   · exact RootRep.same leF ⟨fun z => by simp [unasideGh], fun j e => by injection e with e; subst e; simp [unasideGh], fun b r e => ⟨(rest b r e).1, ownRest b r e⟩⟩ (fun _ => Iff.rfl) b (fun f ef => by rw [ef] at hroot; cases hroot) (h.objs i b ho)
   · have hb := h2.objs i b k3
     rw [St.hl, hh2] at hb
     have hb := RootRep.carry (.inr keepF) (fun z => hdrF i z k1) (by simp [unasideGh, k1]) (fun b' r e => ⟨rfl, by
      rw [ownElse b' (notRest b' _ e (by simp)), e]; simp [unasideGh.un, k1]⟩) (.inl rfl) (fun f ef => absurd ef (k4 _)) hb
     exact RootRep.same (Le.refl _ _) (Same.refl _ _ _) (fun p => ⟨fun e => absurd e (hl_other hq k1 p), fun e => by cases e⟩) b (fun _ _ _ _ => rfl) hb
  lives := fun b x e => by
   by_cases hb : ∃ r, g.own b = some (some id, r)
   · obtain ⟨r, hb⟩ := hb
     exact Nat.lt_of_lt_of_le (h.lives b _ hb) hL.size
   · rw [ownElse b (fun r hr => hb ⟨r, hr⟩)] at e
     cases k : g2.own b with
     | none => rw [k] at e; cases e
     | some x' => exact h2.lives b x' k
  defers := h2.defers
  size := h2.size
  small := h2.small
  ext := fun i b e hi => by
   rcases hobF i b e with ⟨rfl, rfl⟩ | ⟨k1, k3, k4⟩
   · have := h.ext i b ho hi
     exact ⟨by simpa [unasideGh] using this.1, fun hu => by simpa [unasideGh] using this.2 hu⟩
   · have := h2.ext i b k3 hi
     exact ⟨by simpa [unasideGh, k1] using this.1, fun hu => by
      rw [hdrF i [] k1]
      exact this.2 hu⟩ }
end
end Go.Ve
namespace Go.Ve
open Go Go.RowKit
section
variable {P : Program} {g0 : Gh} {w0 : Fra} {N : Nat} {s : St} {g : Gh} {a : Act} {w : World} {α : Type} {r : α} {Q : Exit → Act → World → Prop} {L lent : List Id}
structure Brought (d n : Nat) (q : List Step) (g g' : Gh) (w : World) (s s' : St) : Prop where
 le : Le g w g' w
 hdr : ∀ r, g'.hdr none r = g.hdr none r
 own : ∀ b r, (∀ z, r ≠ q ++ z) → g.own b = some (none, some r) → g'.own b = some (none, some r)
 ids : ∀ id, (∀ j, n ≤ j → id ≠ (d, j)) → Fits g g' s.sig s'.sig id
theorem new_sig_ne {id i : Id} {o : Ob} {x : Sig} (hi : i ≠ id) (h : (s.new id o).sig i = some x) : s.sig i = some x := by
 simp only [St.sig, St.new, St.put, updI_ne _ _ hi, St.purge] at h ⊢
 cases hb : Ob.holds id (s.obj i)
 · simpa [hb] using h
 · simp [hb] at h
theorem place_vec' (h : R g0 w0 N s g a w) {id : Id} (hid : id.1 < N) (hf : s.free id = true) {t : Ty} {m : Mask} {xs : List t.den} {cs : List Value} {q : List Step} (ho : ORep g w none none (.list t) (.own m) q xs cs) :
  R g0 w0 N (s.new id (.vec m t xs)) (g.mv none q (some id) []) a w ∧ cs = [(g.mv none q (some id) []).hdr (some id) []] := by
 have k := ORep.move (mv_le (g := g) (w := w) (id := none) (p := q) (id' := some id) (p' := [])) _ _ q [] _ _ (mv_moved (by simp) (by simp)) ho
 rcases k with ⟨k, _⟩ | ⟨_, k1, k2⟩
 · cases k
 · exact ⟨h.new hid mv_le (fun i hi => mv_same (by simp) (some_ne hi)) hf k2 (fun b o e => by
    cases k : g.own b with
    | none => rw [mv_none k] at e; cases e
    | some o' => exact h.lives b o' k), k1⟩
theorem mkpr_looks {A B : TV} {id : Id} (h : (TV.mkpr A B).looks false id = true) : A.looks false id = true ∨ B.looks false id = true := by
 unfold TV.mkpr at h
 split at h
 · simp [TV.looks] at h
 · simpa [TV.looks] using h
theorem bring_shr {d : Nat} {m : Mask} {t : Ty} {x : t.den} {n : Nat} (hb : bring d m t x n s = (.val ⟨t, x⟩, n, s)) (h : R g0 w0 N s g a w) (hh : s.hole = none) {q : List Step} {cs : List Value} (ho : SRep g w t x cs) :
  ∃ g', R g0 w0 N (bring d m t x n s).2.2 g' a w ∧ (bring d m t x n s).2.2.hole = none ∧ n ≤ (bring d m t x n s).2.1 ∧ TC g' w (bring d m t x n s).2.2.sig (bring d m t x n s).1 t cs ∧
   (∀ id, (bring d m t x n s).1.looks false id = true → ∃ j, id = (d, j) ∧ n ≤ j ∧ j < (bring d m t x n s).2.1) ∧ Brought d n q g g' w s (bring d m t x n s).2.2 := by
 rw [hb]
 exact ⟨g, h, hh, Nat.le_refl _, ⟨rfl, ho⟩, fun id e => by simp [TV.looks] at e, ⟨Le.refl _ _, fun _ => rfl, fun _ _ _ e => e, fun _ _ => ⟨fun _ => rfl, rfl, fun _ e => e⟩⟩⟩
theorem bring_sound {d : Nat} (hd : d < N) : ∀ (m : Mask) (t : Ty) (x : t.den) (n : Nat) (s : St) (g : Gh) (q : List Step) (cs : List Value), R g0 w0 N s g a w → s.hole = none → ORep g w none none t m q x cs →
  ∃ g', R g0 w0 N (bring d m t x n s).2.2 g' a w ∧ (bring d m t x n s).2.2.hole = none ∧ n ≤ (bring d m t x n s).2.1 ∧ TC g' w (bring d m t x n s).2.2.sig (bring d m t x n s).1 t cs ∧
   (∀ id, (bring d m t x n s).1.looks false id = true → ∃ j, id = (d, j) ∧ n ≤ j ∧ j < (bring d m t x n s).2.1) ∧ Brought d n q g g' w s (bring d m t x n s).2.2
 | .own m, .list t, xs, n, s, g, q, cs, h, hh, ho => by
  obtain ⟨k1, k2⟩ := place_vec' h (id := (d, n)) hd (by simp [St.free, hh]) ho
  simp only [bring]
  refine ⟨_, k1, hh, by omega, ⟨k2, fun sg hs => ?_⟩, fun id e => ⟨n, ?_, by omega, by omega⟩, ⟨mv_le, fun r => mv_hdr_ne (by simp) r, fun b r hr e => mv_own_off (fun z e' => hr z (by injection e')) e, fun id hid => ?_⟩⟩
  · rw [new_sig] at hs
    injection hs with hs
    subst hs
    exact ⟨rfl, .inl ⟨rfl, t, rfl⟩⟩
  · simp only [TV.looks, Bool.not_false, Bool.true_or, Bool.and_true] at e
    exact (sameId_eq.1 e).symm
  · have hne : id ≠ (d, n) := hid n (Nat.le_refl _)
    exact ⟨fun r => mv_hdr_ne (by simpa using hne) r, rfl, fun sg hs => new_sig_ne hne hs⟩
 | .prod ma mb, .prod ta tb, x, n, s, g, q, cs, h, hh, ⟨c, e, hc, h1, h2⟩ => by
  obtain ⟨g1, a1, a2, a3, a4, a5, a6⟩ := bring_sound hd ma ta x.1 n s g (q ++ [.fst]) c h hh h1
  have h2' : ORep g1 w none none tb mb (q ++ [.snd]) x.2 e := ORep.move a6.le _ _ _ _ _ _ ⟨fun z => a6.hdr _, fun b z e => ⟨rfl, a6.own b _ (fun z' e' => by
   simp only [List.append_assoc] at e'
   have := List.append_cancel_left e'
   simp at this) e⟩, fun _ => Iff.rfl⟩ h2
  obtain ⟨g2, b1, b2, b3, b4, b5, b6⟩ := bring_sound hd mb tb x.2 (bring d ma ta x.1 n s).2.1 (bring d ma ta x.1 n s).2.2 g1 (q ++ [.snd]) e a1 a2 h2'
  simp only [bring]
  have a4' := TC.le b6.le _ _ _ (fun id hid => b6.ids id (fun j hj e => by
   obtain ⟨j', e1, _, e2⟩ := a5 id hid
   rw [e1] at e
   injection e with _ e
   omega)) a4
  subst hc
  refine ⟨g2, b1, b2, Nat.le_trans a3 b3, TC.mkpr a4' b4 a4'.len b4.len, fun id hid => ?_, ⟨a6.le.trans b6.le, fun r => (b6.hdr r).trans (a6.hdr r), fun b r hr e => ?_, fun id hid => ?_⟩⟩
  · rcases mkpr_looks hid with k | k
    · obtain ⟨j, e1, e2, e3⟩ := a5 id k
      exact ⟨j, e1, e2, Nat.lt_of_lt_of_le e3 b3⟩
    · obtain ⟨j, e1, e2, e3⟩ := b5 id k
      exact ⟨j, e1, Nat.le_trans a3 e2, e3⟩
  · refine b6.own b r (fun z e' => hr (.snd :: z) (by simp [e'])) (a6.own b r (fun z e' => hr (.fst :: z) (by simp [e'])) e)
  · have f1 := a6.ids id hid
    have f2 := b6.ids id (fun j hj => hid j (by omega))
    exact ⟨fun r => (f2.hdr r).trans (f1.hdr r), f2.base.trans f1.base, fun sg hs => f1.sig sg (f2.sig sg hs)⟩
 | .shr, t, x, n, s, g, q, cs, h, hh, ho => bring_shr (by cases t <;> rfl) h hh (ORep.shr.1 ho)
 | .prod _ _, .list t, x, n, s, g, q, cs, h, hh, ho => bring_shr rfl h hh ho
 | .own _, .prod _ _, x, n, s, g, q, cs, h, hh, ho => bring_shr rfl h hh ho
 | .own _, .int _, x, n, s, g, q, cs, h, hh, ho => bring_shr rfl h hh ho
 | .own _, .bool, x, n, s, g, q, cs, h, hh, ho => bring_shr rfl h hh ho
 | .own _, .str, x, n, s, g, q, cs, h, hh, ho => bring_shr rfl h hh ho
 | .own _, .unit, x, n, s, g, q, cs, h, hh, ho => bring_shr rfl h hh ho
 | .prod _ _, .int _, x, n, s, g, q, cs, h, hh, ho => bring_shr rfl h hh ho
 | .prod _ _, .bool, x, n, s, g, q, cs, h, hh, ho => bring_shr rfl h hh ho
 | .prod _ _, .str, x, n, s, g, q, cs, h, hh, ho => bring_shr rfl h hh ho
 | .prod _ _, .unit, x, n, s, g, q, cs, h, hh, ho => bring_shr rfl h hh ho
theorem RessRep.after {g1 g2 : Gh} {i : Nat} (hl : Le g1 w g2 w) (hh : ∀ r, g2.hdr none r = g1.hdr none r) (ho : ∀ b r, (∀ z, r ≠ [.idx i] ++ z) → g1.own b = some (none, some r) → g2.own b = some (none, some r)) : ∀ (rs : List (Mask × Val)) (j : Nat) (vs : List Value), i < j → RessRep g1 w j rs vs → RessRep g2 w j rs vs
 | [], j, [], _, _ => trivial
 | r :: rs, j, v :: vs, hij, ⟨⟨cs, h1, h2⟩, h3⟩ =>
  ⟨⟨cs, ORep.move hl _ _ [.idx j] [.idx j] _ _ ⟨fun q => hh _, fun b q e => ⟨rfl, ho b _ (fun z e' => by simp at e'; omega) e⟩, fun _ => Iff.rfl⟩ h1, h2⟩, RessRep.after hl hh ho rs (j + 1) vs (by omega) h3⟩
theorem TC.rep1 {sg : Id → Option Sig} {A : TV} {t : Ty} {cs : List Value} (h : TC g w sg A t cs) : TRep1 g w sg A (wrap t cs) := by
 have k := h.rep
 cases A with
 | tup l => cases t <;> exact h.elim
 | _ => exact k
theorem TRep1.rep {sg : Id → Option Sig} {A : TV} {v : Value} (h : TRep1 g w sg A v) : TRep g w sg A v := by
 cases A with
 | tup l => exact h.elim
 | _ => exact h
theorem bringAll_sound {d : Nat} (hd : d < N) : ∀ (rs : List (Mask × Val)) (n i : Nat) (s : St) (g : Gh) (vs : List Value), R g0 w0 N s g a w → s.hole = none → RessRep g w i rs vs →
  ∃ g', R g0 w0 N (bringAll d rs n s).2 g' a w ∧ (bringAll d rs n s).2.hole = none ∧ All2 (TRep1 g' w (bringAll d rs n s).2.sig) (bringAll d rs n s).1 vs ∧ Le g w g' w ∧ ∀ id, (∀ j, n ≤ j → id ≠ (d, j)) → Fits g g' s.sig (bringAll d rs n s).2.sig id
 | [], n, i, s, g, [], h, hh, _ => ⟨g, h, hh, trivial, Le.refl _ _, fun _ _ => ⟨fun _ => rfl, rfl, fun _ e => e⟩⟩
 | r :: rs, n, i, s, g, v :: vs, h, hh, ⟨⟨cs, h1, h2⟩, h3⟩ => by
  obtain ⟨g1, a1, a2, a3, a4, a5, a6⟩ := bring_sound hd r.1 r.2.t r.2.x n s g [.idx i] cs h hh h1
  have h3' := RessRep.after a6.le a6.hdr a6.own rs (i + 1) vs (by omega) h3
  obtain ⟨g2, b1, b2, b3, b4, b5⟩ := bringAll_sound hd rs (bring d r.1 r.2.t r.2.x n s).2.1 (i + 1) (bring d r.1 r.2.t r.2.x n s).2.2 g1 vs a1 a2 h3'
  have a4' := TC.le b4 _ _ _ (fun id hid => b5 id (fun j hj e => by
   obtain ⟨j', e1, _, e2⟩ := a5 id hid
   rw [e1] at e
   injection e with _ e
   omega)) a4
  refine ⟨g2, b1, b2, ⟨by rw [h2]; exact a4'.rep1, b3⟩, a6.le.trans b4, fun id hid => ?_⟩
  have f1 := a6.ids id hid
  have f2 := b5 id (fun j hj => hid j (Nat.le_trans a3 hj))
  exact ⟨fun r => (f2.hdr r).trans (f1.hdr r), f2.base.trans f1.base, fun sg hs => f1.sig sg (f2.sig sg hs)⟩
theorem tupOf_rep {sg : Id → Option Sig} {l : List TV} {vs : List Value} {v : Value} (hv : v = match vs with
  | [x] => x
  | l => .tuple l.toArray) (h : All2 (TRep1 g w sg) l vs) : TRep g w sg (tupOf l) v := by
 subst hv
 match l, vs, h with
 | [], [], h => exact ⟨[], rfl, h⟩
 | [A], [x], h => exact h.1.rep
 | A :: B :: l, x :: y :: vs, h => exact ⟨x :: y :: vs, rfl, h⟩
theorem callT_gen {cx : Cx} (henv : EnvOk P cx.env) {K : St → Option α} (o : Oper) (c : Call) (fo : Operand) (f : FnV) {s1 : St} {g1 : Gh} (r1 : R g0 w0 N s1 g1 a w) (hh : s1.hole = none) (hd : ∀ t, o.dst = some t → t < N) (hop : o.op = .call c) (hc : c.callee = .value fo) (hfo : a.eval fo = FnVal g1 f)
  {As : List TV} {tk : List (Option (Mask × Val))} (hA : All2 (TRep g1 w s1.sig) As (c.args.toList.map a.eval ++ f.caps.map fun i => Value.pointer (some (g1.base i)))) (r3 : TakenRep g1 w 0 tk (c.args.toList.map a.eval ++ f.caps.map fun i => Value.pointer (some (g1.base i))))
  (h : callT cx f c.argTypes.toList As tk o.dst s1 K = some r) : o.wp P a w (Next g0 w0 N K r) Q := by
 unfold callT at h
 generalize hLL : handed s1 (cx.mode f.f) As = L at h
 split at h <;> try (cases h; done)
 rename_i as lent hargs
 cases hg : (nodupIds L && lent.all fun id => !memId L id)
 · simp [hg] at h
 · simp only [hg, cond_true] at h
   simp only [Bool.and_eq_true, List.all_eq_true, Bool.not_eq_true'] at hg
   obtain ⟨hg1, hg2⟩ := hg
   have hn := nodup_ids hg1
   have hL : ∀ id ∈ lent, id ∉ L := fun id hi hm => by
    have := hg2 id hi
    rw [memId_iff.2 hm] at this
    cases this
   split at h <;> try (cases h; done)
   rename_i os hos
   obtain ⟨rs, os', ⟨⟨fn, cd, q1, q2, q3⟩, hcon⟩, h⟩ := henv.1 _ _ _ _ _ h
   have hargs' := argsOf_sound r1 hh hL _ 0 tk _ as lent hargs hA r3 (fun _ e => e)
   obtain ⟨o1, o2⟩ := obsOf_sound (lent := lent) r1 hh hn L os hos
   have hC := hcon (g1.call L lent) w (c.args.toList.map a.eval ++ f.caps.map fun i => Value.pointer (some (g1.base i))).toArray (fun b x e => by
    cases k : g1.own b with
    | none => simp [Gh.call, k] at e
    | some x' => exact r1.lives b x' k) (by simpa using hargs') (fun k b e => by
     obtain ⟨id, b', e1, e2, e3, e4⟩ := o2 k b e
     exact e4 k e1)
   have hrun : (execOp a.eval o).run P w = .ok (.enter f.f (c.args.toList.map a.eval ++ f.caps.map fun i => Value.pointer (some (g1.base i))).toArray) w := by
    have hv : (c.args.toList.map a.eval ++ f.caps.map fun i => Value.pointer (some (g1.base i))).toArray = c.args.map a.eval ++ (f.caps.map fun i => Value.pointer (some (g1.base i))).toArray := by
     apply Array.ext'; simp
    rw [hv]
    have q2' : ¬ fn.name = "runtime.NumGoroutine" := by simpa using q2
    simp [execOp, hop, resolve, hc, hfo, FnVal, Deferred.ofValue, invoke, callFunc, q1, q2', q3]
   unfold Oper.wp
   rw [hrun, Oper.upon_enter]
   refine hC.mono fun e w' he => ?_
   obtain ⟨v, g', rfl, Lf⟩ := he
   show Next g0 w0 N K r (a.put o.dst v) w'
   unfold backV at h
   split at h <;> try (cases h; done)
   rename_i s2 hs2
   have key : ∃ gN, R g0 w0 N s2 gN a w' ∧ s2.hole = none ∧ ResRep gN w' rs v := by
    have hos' : ∀ (st : St), (∀ i, i ∉ lent → st.obj i = s1.obj i) → ∀ (k : Nat) (id : Id), L[k]? = some id → ∃ o b, os[k]? = some o ∧ st.obj id = some b ∧ o.sig = b.sig := by
     intro st hst k id hk
     obtain ⟨hlt, _⟩ := List.getElem?_eq_some_iff.1 hk
     have hk' : os[k]? = some os[k] := by simp [o1, hlt]
     obtain ⟨id', b, e1, e2, e3, _⟩ := o2 k _ hk'
     rw [hk] at e1
     injection e1 with e1
     subst e1
     exact ⟨_, b, hk', by rw [hst id (fun hm => hL id hm (List.mem_of_getElem? hk))]; exact e2, e3⟩
    cases hsh : (rs.any (fun r => sharedIn r.1 r.2.t) || os'.any Ob.shares)
    · simp only [hsh, cond_false] at hs2
      simp only [Bool.or_eq_false_iff, List.any_eq_false] at hsh
      exact ⟨_, r1.behind hh hn (view_plain hn) Lf (hos' s1 (fun _ _ => rfl)) (.inr ⟨fun r hr => by simpa using hsh.1 r hr, fun o ho => by simpa using hsh.2 o ho⟩) hs2⟩
    · simp only [hsh, cond_true] at hs2
      obtain ⟨f1, f2, f3⟩ := R.freezes lent r1 hh
      exact ⟨_, f1.behind f2 hn (view_frozen hn hL) Lf (hos' _ f3) (.inl rfl) hs2⟩
   obtain ⟨gN, k1, k2, k3⟩ := key
   cases hdst : o.dst with
   | none =>
    simp only [hdst] at h
    exact ⟨s2, gN, k1, h⟩
   | some d =>
    simp only [hdst] at h
    obtain ⟨vs, v1, v2⟩ := k3
    obtain ⟨g3, b1, b2, b3, _⟩ := bringAll_sound (hd d hdst) rs 0 0 s2 gN vs k1 k2 v1
    exact ⟨_, g3, b1.set (hd d hdst) (tupOf_rep v2 b3), h⟩
theorem TakenRep.le {g g' : Gh} {w : World} (hle : Le g w g' w) (hh : ∀ i, g'.hdr i = g.hdr i) (ho : ∀ b r, g.own b = some (none, r) → g'.own b = some (none, r)) : ∀ (i : Nat) (tk : List (Option (Mask × Val))) (vs : List Value), TakenRep g w i tk vs → TakenRep g' w i tk vs
 | _, [], [], _ => trivial
 | i, x :: xs, v :: vs, ⟨h1, h2⟩ => ⟨fun m u e => by
  obtain ⟨cs, k1, k2⟩ := h1 m u e
  exact ⟨cs, ORep.move hle _ _ _ _ _ _ ⟨fun q => by rw [hh], fun b q e => ⟨rfl, ho b _ e⟩, fun _ => Iff.rfl⟩ k1, k2⟩, TakenRep.le hle hh ho (i + 1) xs vs h2⟩
 | _, [], _ :: _, h => h.elim
 | _, _ :: _, [], h => h.elim
theorem callV_gen {cx : Cx} (henv : EnvOk P cx.env) {K : St → Option α} (o : Oper) (c : Call) (fo : Operand) (f : FnV) (hR : R g0 w0 N s g a w) (hd : ∀ t, o.dst = some t → t < N) (hop : o.op = .call c) (hc : c.callee = .value fo) (hfo : a.eval fo = FnVal g f)
  {As : List TV} (hAs : All2 (TRep g w s.sig) As (c.args.toList.map a.eval)) (h : callV cx f c.argTypes.toList As o.dst s K = some r) : o.wp P a w (Next g0 w0 N K r) Q := by
 have hA : All2 (TRep g w s.sig) (As ++ f.caps.map (capTV s)) (c.args.toList.map a.eval ++ f.caps.map fun i => Value.pointer (some (g.base i))) := by
  have h2 : All2 (TRep g w s.sig) (f.caps.map (capTV s)) (f.caps.map fun i => Value.pointer (some (g.base i))) := by
   generalize f.caps = l
   induction l with
   | nil => trivial
   | cons i l ih =>
    refine ⟨?_, ih⟩
    simp only [capTV]
    split
    · trivial
    · rename_i hno
      refine ⟨_, rfl, fun sg hs => ?_⟩
      simp only [St.sig] at hs
      cases ho : s.obj i with
      | none => simp [ho] at hs
      | some b =>
       simp only [ho, Option.map_some, Option.some.injEq] at hs
       subst hs
       cases b with
       | vec m t xs => exact absurd ho (hno m t xs)
       | box m v => simp [Ob.sig, AddrRoot, AddrOf]
       | fbox f => exact ⟨rfl, rfl⟩
  generalize c.args.toList.map a.eval = vs at hAs ⊢
  clear h
  induction As generalizing vs with
  | nil => cases vs with | nil => exact h2 | cons _ _ => exact hAs.elim
  | cons x l ih => cases vs with | nil => exact hAs.elim | cons v vs => exact ⟨hAs.1, ih vs hAs.2⟩
 unfold callV at h
 split at h <;> try (cases h; done)
 rename_i tk s1 htk
 obtain ⟨g1, r1, r2, r3⟩ := takeArgs_sound _ 0 s s1 g tk _ htk hR hA
 have hbase : g1.base = g.base := funext r2.base
 have hfo1 : a.eval fo = FnVal g1 f := by rw [hfo]; simp [FnVal, hbase]
 have hA1 : All2 (TRep g1 w s1.sig) (As ++ f.caps.map (capTV s)) (c.args.toList.map a.eval ++ f.caps.map fun i => Value.pointer (some (g1.base i))) := by
  rw [hbase]; exact All2.imp (fun _ _ _ e => r2.rep e) hA
 rw [← hbase] at r3
 split at h <;> try (cases h; done)
 · rename_i hh
   exact callT_gen henv o c fo f r1 hh hd hop hc hfo1 hA1 r3 h
 · rename_i id q hq
   split at h <;> try (cases h; done)
   rename_i ob hob
   split at h <;> try (cases h; done)
   rename_i x hroot
   have key := callT_gen (Q := Q) (s1 := s1.aside id) (g1 := g1.aside id) henv o c fo f (r1.aside hq) rfl hd hop hc (by rw [hfo1]; rfl)
    (All2.imp (fun A _ b e => TRep.le aside_le A b (fun i _ => aside_fits) e) hA1) (TakenRep.le aside_le (fun _ => rfl) (fun b r e => by simp [Gh.aside, e]) 0 tk _ r3) h
   refine wp_next' (wp_others key) fun a' w' ⟨q1, q2, s2, g2, q3, q4⟩ => ?_
   dsimp only at q4
   split at q4 <;> try (cases q4; done)
   rename_i hh2
   exact ⟨_, _, r1.unaside hq hob hroot q3 hh2 q1, q4⟩
end
end Go.Ve
namespace Go.Ve
open Go Go.RowKit
theorem sameMask_eq : ∀ {a b : Mask}, sameMask a b = true → a = b
 | .shr, .shr, _ => rfl
 | .own a, .own b, h => by rw [sameMask_eq (a := a) (b := b) h]
 | .prod a b, .prod c d, h => by
  simp only [sameMask, Bool.and_eq_true] at h
  rw [sameMask_eq h.1, sameMask_eq h.2]
 | .shr, .own _, h => by simp [sameMask] at h
 | .shr, .prod _ _, h => by simp [sameMask] at h
 | .own _, .shr, h => by simp [sameMask] at h
 | .own _, .prod _ _, h => by simp [sameMask] at h
 | .prod _ _, .shr, h => by simp [sameMask] at h
 | .prod _ _, .own _, h => by simp [sameMask] at h
section
variable {P : Program} {g0 : Gh} {w0 : Fra} {N : Nat} {s s2 : St} {g g2 : Gh} {a : Act} {w w' : World} {α : Type} {r : α} {Q : Exit → Act → World → Prop}
def _root_.Go.Ve.Gh.nest (g : Gh) (id : Id) (p : List Step) : Gh where
 hdr i z := if i = some nestId then g.hdr (some id) (p ++ z) else g.hdr i z
 base := g.base
 own b := match g.own b with
  | some (some i, r) => if i = id then (match r with
   | some q => match strip p q with
    | some z => some (some nestId, some z)
    | none => some (none, none)
   | none => some (none, none)) else if i = nestId then some (none, none) else some (some i, r)
  | o => o
def baseNest (g0 g : Gh) (id : Id) (p : List Step) : Gh where
 hdr i z := if i = some nestId then g.hdr (some id) (p ++ z) else g0.hdr i z
 base i := if i = nestId then g.base i else g0.base i
 own := g0.own
def homeGh (g g2 : Gh) (id : Id) (p : List Step) : Gh where
 hdr i z := if i = some id then (match strip p z with
  | some y => g2.hdr (some nestId) y
  | none => g.hdr (some id) z) else g2.hdr i z
 base i := if i = id then g.base i else g2.base i
 own b := match g.own b with
  | some (some i, r) => if i = id ∧ (∀ q, r = some q → strip p q = none) then some (some i, r) else homeOwn (g2.own b)
  | _ => homeOwn (g2.own b)
where homeOwn : Option (RId × Option (List Step)) → Option (RId × Option (List Step))
 | some (some i, r) => if i = nestId then (match r with
  | some z => some (some id, some (p ++ z))
  | none => none) else if i = id then none else some (some i, r)
 | o => o
theorem nest_le {id : Id} {p : List Step} : Le g w (g.nest id p) w := ⟨rfl, rfl, rfl, Nat.le_refl _, fun b _ h => ⟨rfl, by simp [Gh.nest, h]⟩, fun b _ h => ⟨rfl, by simp [Gh.nest, h]⟩⟩
theorem nest_same {id i : Id} {p : List Step} (h1 : i ≠ id) (h2 : i ≠ nestId) : Same g w (g.nest id p) w (some i) := ⟨fun z => by simp [Gh.nest, h2], fun _ _ => rfl, fun b r e => ⟨rfl, by simp [Gh.nest, e, h1, h2]⟩⟩
theorem nest_lives {id : Id} {p : List Step} (h : ∀ b o, g.own b = some o → b < w.heap.size) : ∀ b o, (g.nest id p).own b = some o → b < w.heap.size := by
 intro b o e
 cases k : g.own b with
 | none => simp [Gh.nest, k] at e
 | some o' => exact h b o' k
def Rest (g : Gh) (id : Id) (p : List Step) (b : Nat) (r : Option (List Step)) : Prop := g.own b = some (some id, r) ∧ ∀ q, r = some q → strip p q = none
theorem nest_rest {id : Id} {p : List Step} {b : Nat} {r : Option (List Step)} (h : Rest g id p b r) : (g.nest id p).own b = some (none, none) := by
 simp only [Gh.nest, h.1, if_true]
 cases r with
 | none => rfl
 | some q => simp [h.2 q rfl]
theorem R.nest (h : R g0 w0 N s g a w) (hh : s.hole = none) {id : Id} {o : Ob} {p : List Step} {om : Mask} {ov : Val} {m : Mask} {t : Ty} {xs : List t.den} (ho : s.obj id = some o) (hroot : o.root = some (om, ov)) (hget : get p om ov = some (.own m, ⟨.list t, xs⟩))
  (hr : ∀ sg, s.sig id = some sg → RefAt g id sg p) (hne : id ≠ nestId) : R (baseNest g0 g id p) (w0.and (g.nest id p) w) N (((s.purge id).drop id).new nestId (.vec m t xs)) (g.nest id p) a w := by
 have h1 := (h.purge id).drop id
 have hobj1 : ∀ i b, ((s.purge id).drop id).obj i = some b → s.obj i = some b ∧ i ≠ id := fun i b e => ⟨((purge_drop (s := s) (id := id)).2 i b e).1, ((purge_drop (s := s) (id := id)).2 i b e).2.1⟩
 have hat : s.seen id p = some (.own m, ⟨.list t, xs⟩) := by simp [St.seen, hh, St.at, ho, hroot, hget]
 obtain ⟨E, hE, hE'⟩ := h.header hat hr
 have hnew : ∀ i b, (((s.purge id).drop id).new nestId (.vec m t xs)).obj i = some b → (i = nestId ∧ b = .vec m t xs) ∨ (i ≠ nestId ∧ ((s.purge id).drop id).obj i = some b) := by
  intro i b e
  simp only [St.new, put_obj] at e
  by_cases hi : i = nestId
  · rw [if_pos hi] at e; injection e with e; exact .inl ⟨hi, e.symm⟩
  · rw [if_neg hi] at e
    refine .inr ⟨hi, ?_⟩
    have e : (bif Ob.holds nestId (((s.purge id).drop id).obj i) then none else ((s.purge id).drop id).obj i) = some b := e
    cases hb : Ob.holds nestId (((s.purge id).drop id).obj i)
    · rw [hb] at e; exact e
    · rw [hb] at e; cases e
 exact {
  frame := ⟨h.frame.trans nest_le, Le.refl _ _⟩
  tmps := fun u => by
   show TRep _ w _ (bif (((s.purge id).drop id).tmp u).looks false nestId then .dead else ((s.purge id).drop id).tmp u) _
   cases hl : (((s.purge id).drop id).tmp u).looks false nestId
   · refine TRep.le nest_le _ _ (fun i hi => ?_) (h1.tmps u)
     have hin : i ≠ nestId := fun e => by subst e; cases (hl.symm.trans hi)
     exact ⟨fun r => by simp [Gh.nest, hin], rfl, fun sg hs => new_sig_ne hin hs⟩
   · trivial
  objs := fun i b e => by
   have hhl : (((s.purge id).drop id).new nestId (.vec m t xs)).hl = none := by
    show Option.map _ s.hole = none
    rw [hh]; rfl
   rw [hhl]
   rcases hnew i b e with ⟨rfl, rfl⟩ | ⟨hin, e⟩
   · rcases hE with ⟨q1, q2⟩ | ⟨ad, cap, c, el, q1, q2, q3, q4, q5, q6, q7, q8⟩
     · exact .inl ⟨by simp [Gh.nest, q1], q2⟩
     · refine .inr ⟨ad, cap, c, el, by simp [Gh.nest, q1], q2, ?_, q4, q5, q6, q7, fun i hi => ?_⟩
       · have := strip_app p []
         simp only [List.append_nil] at this
         simp [Gh.nest, q3, this]
       · obtain ⟨ds, d1, d2⟩ := q8 i hi
         obtain ⟨hi', d3⟩ := hE' i ds d2
         rw [St.hl, hh] at d3
         exact ⟨ds, d1, hi', ORep.move nest_le _ _ _ _ _ _ ⟨fun q => by simp [Gh.nest], fun b q e => ⟨rfl, by
          have := strip_app p ([.idx i] ++ q)
          rw [← List.append_assoc] at this
          simp only [Gh.nest, e, if_true, this]⟩, fun q => ⟨(fun e => by cases e), (fun e => by cases e)⟩⟩ d3⟩
   · obtain ⟨k1, k2⟩ := hobj1 i b e
     have := h.objs i b k1
     rw [St.hl, hh] at this
     exact RootRep.same nest_le (nest_same k2 hin) (fun _ => Iff.rfl) b (fun _ _ _ _ => rfl) this
  lives := nest_lives h.lives
  defers := h.defers
  size := h.size
  small := h.small
  ext := fun i b e hi => by
   rcases hnew i b e with ⟨rfl, rfl⟩ | ⟨hin, e⟩
   · exact ⟨by simp [baseNest, Gh.nest], fun _ => by simp [baseNest, Gh.nest]⟩
   · obtain ⟨k1, k2⟩ := hobj1 i b e
     have := h.ext i b k1 hi
     exact ⟨by simp only [baseNest, if_neg hin]; exact this.1, fun hu => by
      have hn : (some i : RId) ≠ some nestId := by simpa using hin
      simp only [baseNest, Gh.nest, if_neg hn]; exact this.2 hu⟩ }
theorem stepsUnder_app : ∀ (p q z : List Step), stepsUnder p q = false → z ≠ [] → q ≠ p ++ z
 | [], [], z, _, hz, e => hz (by simpa using e.symm)
 | [], _ :: _, z, h, _, _ => by simp [stepsUnder] at h
 | a :: p, [], z, _, _, e => by simp at e
 | a :: p, b :: q, z, h, hz, e => by
  simp only [List.cons_append, List.cons.injEq] at e
  obtain ⟨rfl, e⟩ := e
  have h' : stepsUnder p q = false := by cases b <;> simpa [stepsUnder] using h
  exact stepsUnder_app p q z h' hz e
theorem AddrOf.way {g g' : Gh} {id : RId} : ∀ (p : List Step) (t : Ty) (pre : List Step) (a b : Addr), (∀ x y, p = x ++ y → y ≠ [] → g'.hdr id (pre ++ x) = g.hdr id (pre ++ x)) → AddrOf g id t pre p a b → AddrOf g' id t pre p a b
 | [], t, pre, a, b, _, e => by simpa [AddrOf] using e
 | s :: p, t, pre, a, b, h, e => by
  have sub : ∀ x y, p = x ++ y → y ≠ [] → g'.hdr id ((pre ++ [s]) ++ x) = g.hdr id ((pre ++ [s]) ++ x) := fun x y e hy => by
   have := h (s :: x) y (by rw [e]; rfl) hy
   simpa [List.append_assoc] using this
  have h0 : g'.hdr id pre = g.hdr id pre := by simpa using h [] (s :: p) rfl (by simp)
  cases s with
  | fst => cases t <;> simp only [AddrOf] at e ⊢ <;> first | exact AddrOf.way p _ _ _ _ sub e | exact e
  | snd => cases t <;> simp only [AddrOf] at e ⊢ <;> first | exact AddrOf.way p _ _ _ _ sub e | exact e
  | idx i =>
   cases t <;> simp only [AddrOf] at e ⊢ <;> try exact e
   obtain ⟨hd, len, cap, e1, e2, e3, e4⟩ := e
   exact ⟨hd, len, cap, by rw [h0]; exact e1, e2, e3, AddrOf.way p _ _ _ _ sub e4⟩
  | arr i => cases t <;> simp only [AddrOf] at e ⊢ <;> exact e
theorem AddrRoot.way {g g' : Gh} {id : Id} {s : Sig} {p : List Step} {a : Addr} (h : ∀ x y, p = x ++ y → y ≠ [] → g'.hdr (some id) x = g.hdr (some id) x) (hb : g'.base id = g.base id) (e : AddrRoot g id s p a) : AddrRoot g' id s p a := by
 cases s with
 | vec t => exact ⟨e.1, AddrOf.way _ _ _ _ _ (fun x y e hy => by simpa using h x y e hy) e.2⟩
 | box t => simp only [AddrRoot, hb] at e ⊢; exact AddrOf.way _ _ _ _ _ (fun x y e hy => by simpa using h x y e hy) e
 | fbox => simpa [AddrRoot, hb] using e
theorem within_ref {g g' : Gh} {id i : Id} {p q : List Step} (hh : ∀ q, (∀ z, z ≠ [] → q ≠ p ++ z) → g'.hdr (some id) q = g.hdr (some id) q) (hb : g'.base id = g.base id) (hw : within id p (.ref i q) = true) : i = id ∧ g'.hdr (some id) q = g.hdr (some id) q ∧ ∀ x, RefAt g id x q → RefAt g' id x q := by
 simp only [Go.Ve.within, Bool.and_eq_true, Bool.not_eq_true'] at hw
 refine ⟨sameId_eq.1 hw.1, hh q (fun z hz e => stepsUnder_app p q z hw.2 hz e), fun x k => k.imp (fun h => h) fun ⟨c, k⟩ => ⟨c, k.way (fun x y e hy => hh x (fun z hz e' => ?_)) hb⟩⟩
 exact stepsUnder_app p q (z ++ y) hw.2 (by simp [hz]) (by rw [e, e', List.append_assoc])
theorem TC.within {g g' : Gh} {w w' : World} {sg sg' : Id → Option Sig} (hl : Le g w g' w') {id : Id} {p : List Step} (hh : ∀ q, (∀ z, z ≠ [] → q ≠ p ++ z) → g'.hdr (some id) q = g.hdr (some id) q) (hb : g'.base id = g.base id) (hs : ∀ x, sg' id = some x → sg id = some x) :
  ∀ (v : TV) (t : Ty) (cs : List Value), within id p v = true → TC g w sg v t cs → TC g' w' sg' v t cs
 | .val v, t, cs, _, h => ⟨h.1, h.2.le hl⟩
 | .nil, t, cs, _, h => by cases t <;> exact h
 | .ref i q, t, cs, hw, h => by
  cases t <;> try exact h.elim
  obtain ⟨rfl, k1, k2⟩ := within_ref hh hb hw
  exact ⟨by rw [k1]; exact h.1, fun x hx => ⟨(h.2 x (hs x hx)).1, k2 x (h.2 x (hs x hx)).2⟩⟩
 | .sub i q lo hi, t, cs, hw, h => by
  cases t <;> try exact h.elim
  obtain ⟨rfl, k1, k2⟩ := within_ref (i := i) (q := q) hh hb hw
  obtain ⟨h1, h2, h3⟩ := h
  exact ⟨fun x hx => ⟨(h1 x (hs x hx)).1, k2 x (h1 x (hs x hx)).2⟩, h2, by rw [k1]; exact h3⟩
 | .pr a b, t, cs, hw, h => by
  simp only [Go.Ve.within, Bool.and_eq_true] at hw
  cases t <;> try exact h.elim
  obtain ⟨c, d, e, l1, l2, h1, h2⟩ := h
  exact ⟨c, d, e, l1, l2, TC.within hl hh hb hs a _ _ hw.1 h1, TC.within hl hh hb hs b _ _ hw.2 h2⟩
 | .dead, t, cs, hw, h => by simp [Go.Ve.within] at hw
 | .addr _ _, t, cs, hw, h => by simp [Go.Ve.within] at hw
 | .saddr _, t, cs, hw, h => by simp [Go.Ve.within] at hw
 | .fn _, t, cs, hw, h => by simp [Go.Ve.within] at hw
 | .nilfn, t, cs, hw, h => by simp [Go.Ve.within] at hw
 | .tup _, t, cs, hw, h => by simp [Go.Ve.within] at hw
 | .tad _, t, cs, hw, h => by simp [Go.Ve.within] at hw
theorem R.home {a' : Act} (h : R g0 w0 N s g a w) (hh : s.hole = none) {id : Id} {o o' : Ob} {p : List Step} {om om' : Mask} {ov : Val} {m : Mask} {t : Ty} {xs zs : List t.den} (ho : s.obj id = some o) (hroot : o.root = some (om, ov)) (hget : get p om ov = some (.own m, ⟨.list t, xs⟩)) (hp : p ≠ [])
  (hset : setMask p om ov.t (.own m) = some om') (hput : o.put om' ⟨ov.t, setVal p ov ⟨.list t, zs⟩⟩ = some o') {ad : Addr} (hr : ∀ sg, s.sig id = some sg → AddrRoot g id sg p ad) (hne : id ≠ nestId)
  (h2 : R (baseNest g0 g id p) (w0.and (g.nest id p) w) N s2 g2 a' w') (hh2 : s2.hole = none) (ho2 : s2.obj nestId = some (.vec m t zs)) {dst : Option Nat} (hoth : ∀ u, dst ≠ some u → a'.tmps.getD u undef = a.tmps.getD u undef) :
  R g0 w0 N (s.home s2 id p o' dst) (homeGh g g2 id p) a' w' := by
 have hL : Le (g.nest id p) w g2 w' := h2.frame.2
 have hsne : (some id : RId) ≠ some nestId := by simpa using hne
 have hspp : ∀ z, strip p (p ++ z) = some z := strip_app p
 have hs0 : strip p [] = none := strip_none fun z e => hp (by
  have := congrArg List.length e
  simp at this
  exact List.eq_nil_of_length_eq_zero (by omega))
 have hx := h2.ext nestId _ ho2 (by simp [nestId])
 have hhd : g2.hdr (some nestId) [] = g.hdr (some id) p := by
  have := hx.2 ⟨t, rfl⟩
  simpa [baseNest] using this
 have rest : ∀ b r, Rest g id p b r → w'.heap[b]? = w.heap[b]? ∧ g2.own b = some (none, none) := fun b r hb => hL.hid b (h.lives b _ hb.1) (nest_rest hb)
 have ownRest : ∀ b r, Rest g id p b r → (homeGh g g2 id p).own b = some (some id, r) := fun b r hb => by
  simp only [homeGh, hb.1]
  exact if_pos ⟨trivial, hb.2⟩
 have ownElse : ∀ b, (∀ r, ¬ Rest g id p b r) → (homeGh g g2 id p).own b = homeGh.homeOwn id p (g2.own b) := fun b hb => by
  simp only [homeGh]
  split
  · rename_i i r e
    rw [if_neg]
    rintro ⟨rfl, k⟩
    exact hb r ⟨e, k⟩
  · rfl
 have notRest : ∀ b x, g2.own b = x → x ≠ some (none, none) → ∀ r, ¬ Rest g id p b r := fun b x e hx r hb => hx (by rw [← e]; exact (rest b r hb).2)
 have keepF : Keeps g2 w' (homeGh g g2 id p) w' := ⟨Nat.le_refl _, fun b _ e => ⟨rfl, by
  rw [ownElse b (notRest b _ e (by simp)), e]; rfl⟩⟩
 have ownF : ∀ b i r, i ≠ id → i ≠ nestId → g2.own b = some (some i, r) → (homeGh g g2 id p).own b = some (some i, r) := fun b i r h1 h2 e => by
  rw [ownElse b (notRest b _ e (by simp)), e]
  simp [homeGh.homeOwn, h1, h2]
 have ownN : ∀ b z, g2.own b = some (some nestId, some z) → (homeGh g g2 id p).own b = some (some id, some (p ++ z)) := fun b z e => by
  rw [ownElse b (notRest b _ e (by simp)), e]
  simp [homeGh.homeOwn]
 have leF : Le g w (homeGh g g2 id p) w' := by
  refine ⟨hL.os, hL.tape, hL.output, hL.size, fun b hb e => ?_, fun b hb e => ?_⟩
  · have := hL.keep b hb (by simp [Gh.nest, e])
    exact ⟨this.1, by rw [ownElse b (notRest b _ this.2 (by simp)), this.2]; rfl⟩
  · have := hL.hid b hb (by simp [Gh.nest, e])
    exact ⟨this.1, by rw [ownElse b (fun r hb' => by rw [hb'.1] at e; cases e), this.2]; rfl⟩
 have hdrF : ∀ i z, i ≠ id → (homeGh g g2 id p).hdr (some i) z = g2.hdr (some i) z := fun i z hi => by
  have : (some i : RId) ≠ some id := by simpa using hi
  simp [homeGh, this]
 have hdrN : ∀ z, (homeGh g g2 id p).hdr (some id) (p ++ z) = g2.hdr (some nestId) z := fun z => by simp [homeGh, hspp]
 have hdrI : ∀ z, strip p z = none → (homeGh g g2 id p).hdr (some id) z = g.hdr (some id) z := fun z hz => by simp [homeGh, hz]
 have hos : o'.sig = o.sig := put_sig ho hput
 have hsgid : s.sig id = some o.sig := by simp [St.sig, ho]
 have hobF : ∀ i b, (s.home s2 id p o' dst).obj i = some b → (i = id ∧ b = o') ∨ (i ≠ id ∧ i ≠ nestId ∧ s2.obj i = some b ∧ ∀ f, b ≠ .fbox f) := by
  intro i b e
  simp only [St.home] at e
  cases h1 : sameId i id
  · simp only [h1, cond_false] at e
    have h1' : i ≠ id := fun e' => by rw [sameId_eq.2 e'] at h1; cases h1
    cases h3 : sameId i nestId
    · simp only [h3, cond_false] at e
      have h3' : i ≠ nestId := fun e' => by rw [sameId_eq.2 e'] at h3; cases h3
      right
      cases hb : s2.obj i with
      | none => simp [hb] at e
      | some b' =>
       cases b' with
       | fbox f => simp [hb] at e
       | vec m t xs => simp only [hb, Option.some.injEq] at e; subst e; exact ⟨h1', h3', rfl, by simp⟩
       | box m v => simp only [hb, Option.some.injEq] at e; subst e; exact ⟨h1', h3', rfl, by simp⟩
    · simp [h3] at e
  · simp only [h1, cond_true, Option.some.injEq] at e
    exact .inl ⟨sameId_eq.1 h1, e.symm⟩
 have hsigid : (s.home s2 id p o' dst).sig id = some o.sig := by simp [St.sig, St.home, sameId_eq.2 rfl, hos]
 have hfits : ∀ i, i ≠ id → i ≠ nestId → Fits g2 (homeGh g g2 id p) s2.sig (s.home s2 id p o' dst).sig i := fun i h1 h3 => ⟨fun z => hdrF i z h1, by simp [homeGh, h1], fun sg hs => by
  simp only [St.sig] at hs ⊢
  cases e : (s.home s2 id p o' dst).obj i with
  | none => simp [e] at hs
  | some b =>
   rcases hobF i b e with ⟨k, _⟩ | ⟨_, _, k, _⟩
   · exact absurd k h1
   · rw [k]; rw [e] at hs; exact hs⟩
 have hhl : (s.home s2 id p o' dst).hl = none := rfl
 obtain ⟨root, z1, z2, z3, z4, z5, z6⟩ := hush_spec ho
 obtain ⟨r1, ⟨c, el, r2⟩, ⟨q0, r3, r3'⟩, ds, r4, r5, _⟩ := h.place hh (p := p) (m := .own m) (v := ⟨.list t, xs⟩) (by simp [St.at, ho, hroot, hget]) hr
 have hds : ds = [g.hdr (some id) p] := by
  rcases r5 with ⟨k, _⟩ | ⟨_, k, _⟩
  · cases k
  · exact k
 have hRest0 : Rest g id p ad.block q0 := ⟨r3, fun q e => strip_none fun z e' => by
  obtain ⟨y, k1, k2⟩ := r3' q e
  rw [e'] at k1
  have := congrArg List.length k1
  simp only [List.length_append] at this
  have : 0 < y.length := List.length_pos_iff.2 k2
  omega⟩
 have W : Wr g w none (homeGh g g2 id p) w' none (some id) p ad.block ad.off 1 := {
  le := leF
  lab := ⟨q0, r3, ownRest _ _ hRest0, r3'⟩
  oth := fun b q e _ hq => by
   have : Rest g id p b q := ⟨e, fun q' e' => strip_none fun z e'' => hq z (by rw [e', e''])⟩
   exact ⟨(rest b q this).1, ownRest b q this⟩
  hdr := fun q hq => hdrI q (strip_none hq)
  hole := fun q _ => ⟨(fun e => by cases e), (fun e => by cases e)⟩
  blk := ⟨c, c, el, r2, by rw [(rest _ _ hRest0).1]; exact r2, rfl⟩
  cell := fun off _ => World.cell?_of_block (w := w) (rest _ _ hRest0).1 }
 have hrow : RootRep g2 w' none nestId (.vec m t zs) := by
  have := h2.objs nestId _ ho2
  rwa [St.hl, hh2] at this
 have hy : ORep (homeGh g g2 id p) w' none (some id) (.list t) (.own m) p zs [g.hdr (some id) p] := by
  have k : ORep g2 w' none (some nestId) (.list t) (.own m) [] zs [g2.hdr (some nestId) []] := .inr ⟨by simp, rfl, hrow⟩
  rw [hhd] at k
  exact ORep.carry (.list t) (.own m) [] p zs _ (.inr keepF) ⟨fun q => hdrN q, fun b q e => ⟨rfl, ownN b q e⟩, fun q => ⟨(fun e => by cases e), (fun e => by cases e)⟩⟩ k
 have hcells : cellsAt w' ad [g.hdr (some id) p] := by
  rw [← hds]
  exact cellsAt_of (rest _ _ hRest0).1 r4
 have hobj : RootRep (homeGh g g2 id p) w' none id o' := by
  have hob := h.objs id o ho
  rw [St.hl, hh] at hob
  exact RootRep.set (v := ⟨.list t, xs⟩) (y := zs) hroot W hob (by simp [homeGh]) Clear.none hget (hr _ hsgid) rfl rfl rfl hy hcells hset hput
 exact {
  frame := h.frame.trans leF
  tmps := fun u => by
   show TRep (homeGh g g2 id p) w' (s.home s2 id p o' dst).sig (homeTV id p (bif isDst dst u then .dead else s.tmp u) (s2.tmp u)) _
   have hnew : TRep (homeGh g g2 id p) w' (s.home s2 id p o' dst).sig (homeNew id (s2.tmp u)) (a'.tmps.getD u undef) := homeNew_rep keepF hfits (h2.tmps u)
   cases hd : isDst dst u
   · simp only [cond_false]
     have hu : dst ≠ some u := fun e => by subst e; simp [isDst] at hd
     have hold : TRep g w s.sig (s.tmp u) (a'.tmps.getD u undef) := by
      rw [hoth u hu]
      exact h.tmps u
     revert hold
     generalize s.tmp u = A
     intro hold
     have hhdr : ∀ q, (∀ z, z ≠ [] → q ≠ p ++ z) → (homeGh g g2 id p).hdr (some id) q = g.hdr (some id) q := fun q hq => by
      cases e : strip p q with
      | none => exact hdrI q e
      | some z =>
       have e' := strip_some.1 e
       by_cases hz : z = []
       · subst hz
         rw [List.append_nil] at e'
         subst e'
         have := hdrN []
         rw [List.append_nil] at this
         rw [this, hhd]
       · exact absurd e' (hq z hz)
     have hbase : (homeGh g g2 id p).base id = g.base id := by simp [homeGh]
     have hsg : ∀ x, (s.home s2 id p o' dst).sig id = some x → s.sig id = some x := fun x e => by rw [hsigid] at e; rw [hsgid]; exact e
     have keep : ∀ (B : TV) (t : Ty) (cs : List Value), within id p B = true → TC g w s.sig B t cs → TC (homeGh g g2 id p) w' (s.home s2 id p o' dst).sig B t cs := fun B t cs => TC.within leF hhdr hbase hsg B t cs
     have one : ∀ B : TV, within id p B = true → (∃ t cs, TC g w s.sig B t cs ∧ a'.tmps.getD u undef = wrap t cs) → TRep (homeGh g g2 id p) w' (s.home s2 id p o' dst).sig B (a'.tmps.getD u undef) := fun B hB ⟨t, cs, c1, c2⟩ => by
      rw [c2]; exact (keep B t cs hB c1).rep
     cases A with
     | saddr v => exact TRep.le leF (.saddr v) _ (fun i hi => by simp [TV.looks] at hi) hold
     | ref i q =>
      simp only [homeTV]
      cases hi : within id p (.ref i q)
      · exact hnew
      · exact one _ hi hold
     | sub i q lo hi' =>
      simp only [homeTV]
      cases hi : within id p (.sub i q lo hi')
      · exact hnew
      · exact one _ hi hold
     | pr x y =>
      simp only [homeTV]
      cases hi : within id p (.pr x y)
      · exact hnew
      · exact one _ hi hold
     | tad B =>
      simp only [homeTV]
      cases hi : within id p B
      · exact hnew
      · obtain ⟨ad', t', cs, h1, h2', h3, h4, h5, h6⟩ := hold
        have ⟨e1, o1⟩ : w'.heap[ad'.block]? = w.heap[ad'.block]? ∧ ((homeGh g g2 id p).own ad'.block = none ∨ (homeGh g g2 id p).own ad'.block = some (none, none)) := by
         rcases h3 with h3 | h3
         · exact ⟨(leF.keep _ h4 h3).1, .inl (leF.keep _ h4 h3).2⟩
         · exact ⟨(leF.hid _ h4 h3).1, .inr (leF.hid _ h4 h3).2⟩
        exact ⟨ad', t', cs, h1, h2', o1, Nat.lt_of_lt_of_le h4 leF.size, cellsAt_of e1 h5, keep B t' cs hi h6⟩
     | addr i q =>
      simp only [homeTV]
      cases hi : (sameId i id && !stepsUnder p q)
      · exact hnew
      · simp only [Bool.and_eq_true, Bool.not_eq_true'] at hi
        have e := sameId_eq.1 hi.1
        subst e
        obtain ⟨ad', c1, c2⟩ := hold
        refine ⟨ad', c1, fun sg hs => (c2 sg (hsg sg hs)).way (fun x y e hy => hhdr x (fun z hz e' => ?_)) hbase⟩
        exact stepsUnder_app p q (z ++ y) hi.2 (by simp [hz]) (by rw [e, e', List.append_assoc])
     | _ => exact hnew
   · exact hnew
  objs := fun i b e => by
   rw [hhl]
   rcases hobF i b e with ⟨rfl, rfl⟩ | ⟨k1, k2, k3, k4⟩
   · exact hobj
   · have hb := h2.objs i b k3
     rw [St.hl, hh2] at hb
     exact RootRep.carry (.inr keepF) (fun z => hdrF i z k1) (by simp [homeGh, k1]) (fun b' r e => ⟨rfl, ownF b' i r k1 k2 e⟩) (.inl rfl) (fun f ef => absurd ef (k4 _)) hb
  lives := fun b x e => by
   by_cases hb : ∃ r, Rest g id p b r
   · obtain ⟨r, hb⟩ := hb
     exact Nat.lt_of_lt_of_le (h.lives b _ hb.1) hL.size
   · rw [ownElse b (fun r hr => hb ⟨r, hr⟩)] at e
     cases k : g2.own b with
     | none => rw [k] at e; cases e
     | some x' => exact h2.lives b x' k
  defers := h2.defers
  size := h2.size
  small := h2.small
  ext := fun i b e hi => by
   rcases hobF i b e with ⟨rfl, rfl⟩ | ⟨k1, k2, k3, k4⟩
   · have := h.ext i o ho hi
     exact ⟨by simpa [homeGh] using this.1, fun hu => by rw [hdrI [] hs0]; exact this.2 (by rw [← hos]; exact hu)⟩
   · have := h2.ext i b k3 hi
     have hn : (some i : RId) ≠ some nestId := by simpa using k2
     exact ⟨by simpa [homeGh, k1, baseNest, k2] using this.1, fun hu => by
      rw [hdrF i [] k1]
      have := this.2 hu
      simpa [baseNest, hn] using this⟩ }
theorem nested_spec {mode : Nat → Nat} : ∀ (As : List TV) (n k : Nat) (id : Id) (p : List Step), nested mode n As = some (k, id, p) → p ≠ [] ∧ n ≤ k ∧ ∃ A, As[k - n]? = some A ∧ oneRef A = some (id, p)
 | [], n, k, id, p, h => by simp [nested] at h
 | A :: As, n, k, id, p, h => by
  have tail : nested mode (n + 1) As = some (k, id, p) → p ≠ [] ∧ n ≤ k ∧ ∃ B, (A :: As)[k - n]? = some B ∧ oneRef B = some (id, p) := fun h => by
   obtain ⟨h1, h2, B, h3, h4⟩ := nested_spec As (n + 1) k id p h
   refine ⟨h1, by omega, B, ?_, h4⟩
   rw [show k - n = (k - (n + 1)) + 1 by omega]
   simpa using h3
  simp only [nested] at h
  split at h
  · rename_i id' x p' e
    split at h
    · simp only [Option.some.injEq, Prod.mk.injEq] at h
      obtain ⟨rfl, rfl, rfl⟩ := h
      exact ⟨by simp, Nat.le_refl _, A, by simp, e⟩
    · exact tail h
  · exact tail h
theorem setNth_rep {sg : Id → Option Sig} {B : TV} : ∀ (As : List TV) (vs : List Value) (n : Nat), All2 (TRep g w sg) As vs → (∀ A mv, As[n]? = some A → vs[n]? = some mv → TRep g w sg (substRef B A) mv) → All2 (TRep g w sg) (setNth n B As) vs
 | [], [], n, h, _ => by cases n <;> exact h
 | A :: As, v :: vs, 0, h, hv => ⟨hv A v rfl rfl, h.2⟩
 | A :: As, v :: vs, n + 1, h, hv => ⟨h.1, setNth_rep As vs n h.2 fun C mv hC hm => hv C mv (by simpa using hC) (by simpa using hm)⟩
theorem refs_none {sg : Id → Option Sig} {i : Id} : ∀ (A : TV) (t : Ty) (cs : List Value), A.refs = 0 → TC g w sg A t cs → A.looks false i = false
 | .val _, _, _, _, _ => rfl
 | .nil, _, _, _, _ => rfl
 | .dead, _, _, _, _ => rfl
 | .ref _ _, _, _, h, _ => by simp [TV.refs] at h
 | .sub _ _ _ _, _, _, h, _ => by simp [TV.refs] at h
 | .pr a b, t, cs, h, hc => by
  simp only [TV.refs] at h
  cases t <;> try exact hc.elim
  obtain ⟨c, d, _, _, _, h1, h2⟩ := hc
  simp only [TV.looks, refs_none a _ _ (by omega) h1, refs_none b _ _ (by omega) h2, Bool.or_self]
 | .addr _ _, t, _, _, hc => by cases t <;> exact hc.elim
 | .saddr _, t, _, _, hc => by cases t <;> exact hc.elim
 | .fn _, t, _, _, hc => by cases t <;> exact hc.elim
 | .nilfn, t, _, _, hc => by cases t <;> exact hc.elim
 | .tup _, t, _, _, hc => by cases t <;> exact hc.elim
 | .tad _, t, _, _, hc => by cases t <;> exact hc.elim
theorem one_ref {sg : Id → Option Sig} {id : Id} {p : List Step} : ∀ (A : TV) (t : Ty) (cs : List Value), oneRef A = some (id, p) → TC g w sg A t cs →
  ∃ u, TC g w sg (.ref id p) (.list u) [g.hdr (some id) p] ∧ ∀ (B : TV) (g' : Gh) (w' : World) (sg' : Id → Option Sig), Le g w g' w' → TC g' w' sg' B (.list u) [g.hdr (some id) p] → TC g' w' sg' (substRef B A) t cs
 | .ref i q, t, cs, h, hc => by
  simp only [oneRef, Option.some.injEq, Prod.mk.injEq] at h
  obtain ⟨rfl, rfl⟩ := h
  cases t <;> try exact hc.elim
  rename_i u
  obtain ⟨rfl, h2⟩ := hc
  exact ⟨u, ⟨rfl, h2⟩, fun B g' w' sg' _ hB => hB⟩
 | .pr a b, t, cs, h, hc => by
  cases t <;> try exact hc.elim
  obtain ⟨c, d, e, l1, l2, h1, h2⟩ := hc
  simp only [oneRef] at h
  split at h
  · rename_i ha hb
    obtain ⟨u, k1, k2⟩ := one_ref b _ _ h h2
    refine ⟨u, k1, fun B g' w' sg' hle hB => ?_⟩
    simp only [substRef, ha]
    exact ⟨c, d, e, l1, l2, h1.le hle _ _ _ (fun i hi => by rw [refs_none a _ _ ha h1] at hi; cases hi), k2 B g' w' sg' hle hB⟩
  · rename_i ha hb
    obtain ⟨u, k1, k2⟩ := one_ref a _ _ h h1
    refine ⟨u, k1, fun B g' w' sg' hle hB => ?_⟩
    simp only [substRef, ha]
    exact ⟨c, d, e, l1, l2, k2 B g' w' sg' hle hB, h2.le hle _ _ _ (fun i hi => by rw [refs_none b _ _ hb h2] at hi; cases hi)⟩
  · cases h
 | .val _, _, _, h, _ => by simp [oneRef] at h
 | .nil, _, _, h, _ => by simp [oneRef] at h
 | .dead, _, _, h, _ => by simp [oneRef] at h
 | .sub _ _ _ _, _, _, h, _ => by simp [oneRef] at h
 | .addr _ _, _, _, h, _ => by simp [oneRef] at h
 | .saddr _, _, _, h, _ => by simp [oneRef] at h
 | .fn _, _, _, h, _ => by simp [oneRef] at h
 | .nilfn, _, _, h, _ => by simp [oneRef] at h
 | .tup _, _, _, h, _ => by simp [oneRef] at h
 | .tad _, _, _, h, _ => by simp [oneRef] at h
theorem one_rep {sg : Id → Option Sig} {id : Id} {p : List Step} {A : TV} {mv : Value} (h : oneRef A = some (id, p)) (hA : TRep g w sg A mv) : ∃ t cs, TC g w sg A t cs ∧ mv = wrap t cs := by
 cases A <;> simp only [oneRef] at h <;> first | exact hA | cases h
theorem callN_sound {cx : Cx} (henv : EnvOk P cx.env) {K : St → Option α} (o : Oper) (c : Call) (fo : Operand) (f : FnV) (hR : R g0 w0 N s g a w) (hd : ∀ t, o.dst = some t → t < N) (hop : o.op = .call c) (hc : c.callee = .value fo) (hf : s.ev fo = .fn f)
  (h : callN cx f c.argTypes.toList (c.args.toList.map s.ev) o.dst s K = some r) : o.wp P a w (Next g0 w0 N K r) Q := by
 have hfo : a.eval fo = FnVal g f := by have := hR.ev fo; rw [hf] at this; exact this
 have hAs : All2 (TRep g w s.sig) (c.args.toList.map s.ev) (c.args.toList.map a.eval) := by
  generalize c.args.toList = l
  induction l with
  | nil => trivial
  | cons x l ih => exact ⟨hR.ev x, ih⟩
 unfold callN at h
 split at h
 · exact callV_gen henv o c fo f hR hd hop hc hfo hAs h
 · rename_i n id p hn
   obtain ⟨hp, _, A0, hA, hone⟩ := nested_spec _ 0 n id p hn
   rw [Nat.sub_zero] at hA
   split at h <;> try (cases h; done)
   rename_i hh
   cases hg : (!isDst o.dst id.1 && !sameId id nestId && (c.args.toList.map s.ev).all fun A => !A.looks false nestId)
   · rw [hg] at h; cases h
   · rw [hg] at h
     dsimp only [cond_true] at h
     simp only [Bool.and_eq_true, Bool.not_eq_true', List.all_eq_true] at hg
     obtain ⟨⟨hg1, hg2⟩, hg3⟩ := hg
     have hne : id ≠ nestId := fun e => by rw [sameId_eq.2 e] at hg2; cases hg2
     split at h <;> try (cases h; done)
     rename_i ob hob
     split at h <;> try (cases h; done)
     rename_i om ov hroot
     split at h <;> try (cases h; done)
     rename_i m t xs hget
     split at h <;> try (cases h; done)
     rename_i om' hset
     obtain ⟨mv, hmv, hrep⟩ := All2.get hAs hA
     obtain ⟨u0, cs0, z1, z2⟩ := one_rep hone hrep
     obtain ⟨u1, c1, csub⟩ := one_ref A0 u0 cs0 hone z1
     have hsg : s.sig id = some ob.sig := by simp [St.sig, hob]
     obtain ⟨k1, k2⟩ := c1.2 _ hsg
     obtain ⟨ad, had⟩ := k2.resolve_left (fun k => hp k.1)
     have hut : u1 = t := by
      have hat : s.at id p = some (.own m, ⟨.list t, xs⟩) := by simp [St.at, hob, hroot, hget]
      obtain ⟨sg, q1, q2⟩ := seen_sig (s := s) (id := id) (p := p) (m := .own m) (v := ⟨.list t, xs⟩) (by simp [St.seen, hh, hat])
      rw [hsg] at q1
      injection q1 with q1
      subst q1
      rw [k1] at q2
      injection q2 with q2
      injection q2 with q2
     subst hut
     have hRN := hR.nest hh hob hroot hget (fun sg hs => (c1.2 sg hs).2) hne
     have hA2 : All2 (TRep (g.nest id p) w (((s.purge id).drop id).new nestId (.vec m u1 xs)).sig) (setNth n (.ref nestId []) (c.args.toList.map s.ev)) (c.args.toList.map a.eval) := by
      have hB : TC (g.nest id p) w (((s.purge id).drop id).new nestId (.vec m u1 xs)).sig (.ref nestId []) (.list u1) [g.hdr (some id) p] := by
       refine ⟨by simp [Gh.nest], fun sg hs => ?_⟩
       rw [new_sig] at hs
       injection hs with hs
       subst hs
       exact ⟨rfl, .inl ⟨rfl, u1, rfl⟩⟩
      refine setNth_rep _ _ n (All2.imp (fun A hAm b k => TRep.le nest_le A b (fun i hi => ?_) k) hAs) (fun A mv' hA' hm' => ?_)
      · have hin : i ≠ nestId := fun e => by subst e; have := hg3 A hAm; rw [this] at hi; cases hi
        refine ⟨fun r => by simp [Gh.nest, hin], rfl, fun sg hs => ?_⟩
        have hs := new_sig_ne hin hs
        simp only [St.sig] at hs ⊢
        cases e : ((s.purge id).drop id).obj i with
        | none => simp [e] at hs
        | some b => rw [((purge_drop (s := s) (id := id)).2 i b e).1]; rw [e] at hs; exact hs
      · rw [hA] at hA'
        injection hA' with hA'
        subst hA'
        rw [hmv] at hm'
        injection hm' with hm'
        subst hm'
        rw [z2]
        exact (csub _ _ _ _ nest_le hB).rep
     have key := callV_gen (Q := Q) henv o c fo f hRN hd hop hc hfo hA2 h
     refine wp_next' (wp_others key) fun a' w' ⟨q1, q2, s2, g2, q3, q4⟩ => ?_
     dsimp only at q4
     split at q4 <;> try (cases q4; done)
     rename_i hh2
     split at q4 <;> try (cases q4; done)
     rename_i m' t' ys ho2
     cases hm : sameMask m m'
     · simp [hm] at q4
     · simp only [hm, cond_true] at q4
       have hm := sameMask_eq hm
       subst hm
       split at q4 <;> try (cases q4; done)
       rename_i zs hz
       have e := castTo_some hz
       injection e with e1 e2
       injection e1 with e1
       subst e1
       have e2 := eq_of_heq e2
       subst e2
       split at q4 <;> try (cases q4; done)
       rename_i o' hput
       refine ⟨_, _, R.home hR hh hob hroot hget hp hset hput (ad := ad) (fun sg hs => ?_) hne q3 hh2 ho2 q1, q4⟩
       rw [hsg] at hs
       injection hs with hs
       subst hs
       exact had
theorem callM_sound {cx : Cx} (ht : TabOk' P cx.tab) (henv : EnvOk P cx.env) : CallOk P cx g0 w0 N Q := by
 intro α r s g a w K o c fo f hR hd hop hc hf h
 unfold callM at h
 split at h
 · exact callN_sound henv o c fo f hR hd hop hc hf h
 · rename_i x T hmk
   split at h <;> try (cases h; done)
   rename_i A d i hcaps hargs hdst hi
   split at h <;> try (cases h; done)
   rename_i m v s1 htk
   split at h <;> try (cases h; done)
   rename_i y hy
   have := castTo_some hy
   subst this
   cases hfr : s1.free (d, 0)
   · rw [hfr] at h; cases h
   rw [hfr] at h
   dsimp only [cond_true] at h
   obtain ⟨xo, hxo⟩ : ∃ xo, c.args.toList = [xo] := by
    match hl : c.args.toList with
    | [] => rw [hl] at hargs; cases hargs
    | [xo] => exact ⟨xo, rfl⟩
    | _ :: _ :: _ => rw [hl] at hargs; cases hargs
   have hA : s.ev xo = A := by rw [hxo] at hargs; simpa using hargs
   subst hA
   have hdN := hd d hdst
   obtain ⟨g1, cs, f1, f2, f3, f4, f5, f6⟩ := take_rep hR (hR.ev xo) htk []
   obtain ⟨g', k1, k2⟩ := place_box (id := (d, 0)) f2 hdN hfr f3 T
   have hcl := wrap_cells f3.len (ht.data T i (by simp [Tab.ti, hi])).pos (ORep.one (by simp) f3)
   obtain ⟨⟨fn, cd, q1, q2, q3⟩, hcon⟩ := henv.2 _ _ _ hmk
   have hbox : (Instr.box T (a.eval xo)).run P w = .ok (.pointer (some ⟨w.heap.size, 0, none⟩)) (w.alloc (.cells cs.toArray T)) := by
    rw [f1]; simp [Instr.box, newVar, newRow, hcl]
   have hC := hcon _ _ _ _ hbox
   have hfo : a.eval fo = FnVal g f := by have := hR.ev fo; rw [hf] at this; exact this
   have hargv : c.args.map a.eval = #[a.eval xo] := by
    apply Array.ext'
    simp [hxo]
   have hrun : (execOp a.eval o).run P w = .ok (.enter f.f #[a.eval xo]) w := by
    have q2' : ¬ fn.name = "runtime.NumGoroutine" := by simpa using q2
    simp [execOp, hop, resolve, hc, hfo, FnVal, hcaps, Deferred.ofValue, invoke, callFunc, q1, q2', q3, hargv]
   unfold Oper.wp
   rw [hrun, Oper.upon_enter]
   refine hC.mono fun e w' he => ?_
   obtain ⟨rfl, rfl⟩ := he
   refine ⟨_, g', ?_, h⟩
   rw [hdst]
   refine k1.set hdN ?_
   show _ = FnVal g' _
   simp [FnVal, k2]
end
end Go.Ve
namespace Go.Ve
open Go Go.RowKit
section
variable {P : Program} {g0 : Gh} {w0 : Fra} {N : Nat} {s : St} {g : Gh} {a : Act} {w : World} {α : Type} {r : α} {Q : Exit → Act → World → Prop} {cx : Cx} {ops : Array Oper}
theorem wp_next {o : Oper} {n1 n2 : Act → World → Prop} (h : ∀ a w, n1 a w → n2 a w) (k : o.wp P a w n1 Q) : o.wp P a w n2 Q := by
 unfold Oper.wp Oper.upon at k ⊢
 split at k
 · exact h _ _ k
 · exact h _ _ k
 · exact h _ _ k
 · refine k.mono fun e w' he => ?_
   cases e <;> first | exact h _ _ he | exact he
 · exact k.mono fun v w' he => h _ _ he
 · exact k
 · exact k.elim
theorem undef_rep {sg : Id → Option Sig} : TRep g w sg (.tup []) undef := ⟨[], rfl, trivial⟩
theorem guard_cases {E : St → (St → Option α) → Option α} {o : Oper} {K : St → Option α} (hR : R g0 w0 N s g a w) (h : guardedBy E ops o s K = some r) :
  (Region.wanted o (yielded ops a.tmps) = true ∧ E s K = some r) ∨ (Region.wanted o (yielded ops a.tmps) = false ∧ K (s.setD o.dst (.tup [])) = some r) := by
 simp only [guardedBy] at h
 split at h
 · rename_i hg
   exact .inl ⟨by simp [Region.wanted, hg], h⟩
 · rename_i gi want hg
   split at h <;> try (cases h; done)
   rename_i og hog
   split at h <;> try (cases h; done)
   rename_i t ht'
   split at h <;> try (cases h; done)
   · rename_i b hb
     have hx := hR.tmps t
     rw [hb] at hx
     have hx := hx.bool
     have hy : yielded ops a.tmps gi = some b := by
      have h1 : a.tmps[t]? = some (.bool b) := by
       rw [Array.getD_eq_getD_getElem?] at hx
       cases e : a.tmps[t]? with
       | none => rw [e] at hx; simp [undef] at hx
       | some v => rw [e] at hx; simp at hx; rw [hx]
      simp [yielded, hog, ht', h1]
     have hself : s.set t (.val ⟨.bool, b⟩) = s := by
      have : upd s.tmp t (.val ⟨.bool, b⟩) = s.tmp := funext fun u => by
       by_cases e : u = t
       · subst e; rw [upd_same, hb]
       · rw [upd_ne _ _ e]
      simp only [St.set, this]
     cases b <;> cases want <;> simp only [hself] at h
     · exact .inl ⟨by simp [Region.wanted, hg, hy], h⟩
     · exact .inr ⟨by simp [Region.wanted, hg, hy], h⟩
     · exact .inr ⟨by simp [Region.wanted, hg, hy], h⟩
     · exact .inl ⟨by simp [Region.wanted, hg, hy], h⟩
   · rename_i hb
     have hx := hR.tmps t
     rw [hb] at hx
     obtain ⟨vs, hx, hvs⟩ := hx
     have hv : vs = [] := by
      cases vs with
      | nil => rfl
      | cons _ _ => exact hvs.elim
     subst hv
     have hy : yielded ops a.tmps gi = none := by
      simp only [yielded, hog, Option.bind_some, ht']
      rw [Array.getD_eq_getD_getElem?] at hx
      cases e : a.tmps[t]? with
      | none => rfl
      | some v => rw [e] at hx; simp at hx; subst hx; rfl
     exact .inr ⟨by simp [Region.wanted, hg, hy], h⟩
theorem run_region (ht : TabOk' P cx.tab) (hcall : CallOk P cx g0 w0 N Q) : ∀ (l : List Oper) (s : St) (g : Gh) (a : Act) (w : World) (K : St → Option α), R g0 w0 N s g a w → (∀ o ∈ l, ∀ t, o.dst = some t → t < N) →
  (∀ a w, Next g0 w0 N K r a w → Q .normal a w) → runOps cx ops l s K = some r → wpList P ops Q l a w
 | [], s, g, a, w, K, hR, _, hQ, h => hQ a w ⟨s, g, hR, h⟩
 | o :: l, s, g, a, w, K, hR, hd, hQ, h => by
  have hd1 := hd o (by simp)
  have rest : ∀ a w, Next g0 w0 N (fun s => runOps cx ops l s K) r a w → wpList P ops Q l a w := by
   rintro a w ⟨s', g', k1, k2⟩
   exact run_region ht hcall l s' g' a w K k1 (fun o ho => hd o (by simp [ho])) hQ k2
  simp only [runOps] at h
  simp only [wpList]
  rcases guard_cases hR h with ⟨hw, h⟩ | ⟨hw, h⟩
  · rw [if_pos hw]
    exact .inl (wp_next rest (exec_sound ht hcall hR hd1 h))
  · rw [if_neg (by simp [hw])]
    exact rest _ _ ⟨_, g, hR.setD hd1 undef_rep, h⟩
end
end Go.Ve
namespace Go.Ve
open Go Go.RowKit
def TplOk (J : Tpl) : Prop := ∀ {g0 : Gh} {w0 : Fra} {N : Nat} {s : St} {g : Gh} {a : Act} {w : World} {p : J.P}, J.E s = some p → R g0 w0 N s g a w → ∃ g', R g0 w0 N (J.S p) g' a w
def ownsAt : Mask → List Step → Bool
 | .own _, [] => true
 | .own m, .idx _ :: p => ownsAt m p
 | .prod a _, .fst :: p => ownsAt a p
 | .prod _ b, .snd :: p => ownsAt b p
 | _, _ => false
theorem ownsAt_shr (q : List Step) : ownsAt .shr q = false := by cases q <;> rfl
def _root_.Go.Ve.Gh.thin (g : Gh) (M : Id → Option Mask) (nl : Id → Bool) (F : Nat → Option Mask) : Gh where
 hdr i r := match i with
  | some id => if nl id = true then .slice none 0 0 else g.hdr (some id) r
  | none => g.hdr none r
 base := g.base
 own b := match g.own b with
  | some (some id, some r) => match M id with
   | some m => if ownsAt m r = true then some (some id, some r) else none
   | none => some (some id, some r)
  | some (none, some (.idx i :: r)) => match F i with
   | some m => if ownsAt m r = true then some (none, some (.idx i :: r)) else none
   | none => some (none, some (.idx i :: r))
  | o => o
section
variable {P : Program} {g0 : Gh} {w0 : Fra} {N : Nat} {s : St} {g g' : Gh} {a : Act} {w : World} {M : Id → Option Mask} {nl : Id → Bool} {F : Nat → Option Mask}
theorem thin_some {b : Nat} {o : RId × Option (List Step)} (e : (g.thin M nl F).own b = some o) : g.own b = some o := by
 simp only [Gh.thin] at e
 split at e
 · split at e
   · split at e
     · rename_i h1 _ _ _ _; rw [← e]; exact h1
     · cases e
   · rename_i h1 _ _; rw [← e]; exact h1
 · split at e
   · split at e
     · rename_i h1 _ _ _ _; rw [← e]; exact h1
     · cases e
   · rename_i h1 _ _; rw [← e]; exact h1
 · exact e
theorem thin_le : Le g w (g.thin M nl F) w := ⟨rfl, rfl, rfl, Nat.le_refl _, fun b _ h => ⟨rfl, by simp [Gh.thin, h]⟩, fun b _ h => ⟨rfl, by simp [Gh.thin, h]⟩⟩
theorem thin_lives (h : ∀ b o, g.own b = some o → b < w.heap.size) : ∀ b o, (g.thin M nl F).own b = some o → b < w.heap.size := fun b o e => h b o (thin_some e)
theorem thin_hdr {id : Id} (h : nl id = false) (r : List Step) : (g.thin M nl F).hdr (some id) r = g.hdr (some id) r := by simp [Gh.thin, h]
theorem mk_prod {a b c d : Mask} (h : Mask.mk (a.meet c) (b.meet d) = .prod c d) : a.meet c = c ∧ b.meet d = d := by
 unfold Mask.mk at h
 split at h
 · cases h
 · injection h with h1 h2
   exact ⟨h1, h2⟩
structure Thin (g g' : Gh) (id : RId) (p : List Step) (m : Mask) : Prop where
 hdr : ∀ r, g'.hdr id (p ++ r) = g.hdr id (p ++ r)
 own : ∀ b q, g.own b = some (id, some (p ++ q)) → g'.own b = if ownsAt m q = true then some (id, some (p ++ q)) else none
theorem Thin.step {id : RId} {p : List Step} {m m' : Mask} {x : Step} (h : Thin g g' id p m) (hm : ∀ q, ownsAt m (x :: q) = ownsAt m' q) : Thin g g' id (p ++ [x]) m' :=
 ⟨fun r => by simpa using h.hdr (x :: r), fun b q e => by
  have := h.own b (x :: q) (by simpa using e)
  rw [hm] at this
  simpa using this⟩
theorem ORep.thin {id : RId} (hle : Le g w g' w) : ∀ (t : Ty) (m' m : Mask) (p : List Step) (x : t.den) (cs : List Value), m'.meet m = m → Thin g g' id p m →
  ORep g w none id t m' p x cs → ORep g' w none id t m p x cs
 | t, m', .shr, p, x, cs, hm, hq, h => ORep.shr.2 (ORep.free hle t m' p x cs ⟨fun b q e => ⟨rfl, by rw [hq.own b q e, ownsAt_shr]; rfl⟩, fun q => by simp⟩ h)
 | .list t, m', .own m, p, xs, cs, hm, hq, h => by
  cases m' with
  | own m'' =>
   have hm2 : m''.meet m = m := by simpa [Mask.meet] using hm
   have hh : g'.hdr id p = g.hdr id p := by simpa using hq.hdr []
   rcases h with ⟨h1, h2⟩ | ⟨h1, h2, h3⟩
   · cases h1
   · refine .inr ⟨by simp, by rw [hh]; exact h2, ?_⟩
     rcases h3 with h3 | ⟨ad, cap, c, e, h1, h2, h3, h4, h5, h6, h7, h8⟩
     · exact .inl (by rw [hh]; exact h3)
     · have ho : g'.own ad.block = some (id, some p) := by
        have := hq.own ad.block [] (by simpa using h3)
        simpa [ownsAt] using this
       refine .inr ⟨ad, cap, c, e, by rw [hh]; exact h1, h2, ho, h4, h5, h6, h7, fun i hi => ?_⟩
       obtain ⟨ds, d1, hi', d2⟩ := h8 i hi
       exact ⟨ds, d1, hi', ORep.thin hle t m'' m _ _ ds hm2 (hq.step fun q => rfl) d2⟩
  | shr => simp [Mask.meet] at hm
  | prod c d => simp [Mask.meet] at hm
 | .prod ta tb, m', .prod c d, p, x, cs, hm, hq, h => by
  cases m' with
  | prod e f =>
   obtain ⟨k1, k2⟩ := mk_prod hm
   obtain ⟨cs1, cs2, e', h1, h2⟩ := h
   exact ⟨cs1, cs2, e', ORep.thin hle ta e c _ _ cs1 k1 (hq.step fun q => rfl) h1, ORep.thin hle tb f d _ _ cs2 k2 (hq.step fun q => rfl) h2⟩
  | shr => simp [Mask.meet] at hm
  | own _ => simp [Mask.meet] at hm
 | .list t, m', .prod c d, p, xs, cs, hm, hq, h => by
  cases m' with
  | prod e f => exact SRep.le hle (.list t) xs cs h
  | shr => simp [Mask.meet] at hm
  | own _ => simp [Mask.meet] at hm
 | .prod ta tb, m', .own m, p, x, cs, hm, hq, h => by
  cases m' with
  | own _ => exact SRep.le hle (.prod ta tb) x cs h
  | shr => simp [Mask.meet] at hm
  | prod _ _ => simp [Mask.meet] at hm
 | .int k, m', .own _, p, x, cs, hm, hq, h => by cases m' <;> exact SRep.le hle (.int k) x cs h
 | .int k, m', .prod _ _, p, x, cs, hm, hq, h => by cases m' <;> exact SRep.le hle (.int k) x cs h
 | .bool, m', .own _, p, x, cs, hm, hq, h => by cases m' <;> exact SRep.le hle .bool x cs h
 | .bool, m', .prod _ _, p, x, cs, hm, hq, h => by cases m' <;> exact SRep.le hle .bool x cs h
 | .str, m', .own _, p, x, cs, hm, hq, h => by cases m' <;> exact SRep.le hle .str x cs h
 | .str, m', .prod _ _, p, x, cs, hm, hq, h => by cases m' <;> exact SRep.le hle .str x cs h
 | .unit, m', .own _, p, x, cs, hm, hq, h => by cases m' <;> exact SRep.le hle .unit x cs h
 | .unit, m', .prod _ _, p, x, cs, hm, hq, h => by cases m' <;> exact SRep.le hle .unit x cs h
theorem thin_root {id : Id} {m : Mask} (hM : M id = some m) (hn : nl id = false) : Thin g (g.thin M nl F) (some id) [] m :=
 ⟨fun r => thin_hdr hn _, fun b q e => by simp only [List.nil_append] at e ⊢; simp [Gh.thin, e, hM]⟩
theorem thin_float {i : Nat} {m : Mask} (hF : F i = some m) : Thin g (g.thin M nl F) none [.idx i] m :=
 ⟨fun r => rfl, fun b q e => by simp only [List.cons_append, List.nil_append] at e ⊢; simp [Gh.thin, e, hF]⟩
inductive Weak : Ob → Ob → Prop
 | vec {m' m t xs} : m'.meet m = m → Weak (.vec m' t xs) (.vec m t xs)
 | box {m' m v} : m'.meet m = m → Weak (.box m' v) (.box m v)
 | fbox {f} : Weak (.fbox f) (.fbox f)
theorem Weak.sig {o o' : Ob} (h : Weak o o') : o'.sig = o.sig := by cases h <;> rfl
theorem RootRep.thin {id : Id} {o o' : Ob} (hw : Weak o o') (hM : ∀ m v, o'.root = some (m, v) → M id = some m) (hf : (∃ f, o' = .fbox f) → M id = none) (hn : nl id = false) (h : RootRep g w none id o) : RootRep (g.thin M nl F) w none id o' := by
 cases hw with
 | @vec m' m t xs hm =>
  have h0 : ORep g w none (some id) (.list t) (.own m') [] xs [g.hdr (some id) []] := .inr ⟨by simp, rfl, h⟩
  have k := ORep.thin (thin_le (M := M) (nl := nl) (F := F)) (.list t) (.own m') (.own m) [] xs _ (by simp [Mask.meet, hm]) (thin_root (hM _ _ rfl) hn) h0
  rcases k with ⟨k, _⟩ | ⟨_, _, k⟩
  · cases k
  · exact k
 | @box m' m v hm =>
  obtain ⟨cs, c, e, h1, h2, h3, h4, h5⟩ := h
  exact ⟨cs, c, e, h1, by simp [Gh.thin, h2], h3, h4, ORep.thin thin_le _ _ _ [] _ _ hm (thin_root (hM _ _ rfl) hn) h5⟩
 | @fbox f =>
  obtain ⟨h1, h2, h3, h4⟩ := h
  exact ⟨h1, by simp [Gh.thin, h2], h3, h4⟩
theorem look_val : ∀ (A : TV) (t : Ty) (cs : List Value) (v : Val) (u : Ty), TC g w s.sig A u cs → s.look t A = some v → rootsOf A = [] → SRep g w v.t v.x cs ∧ wrap u cs = wrap v.t cs
 | .val v, t, cs, v', u, hc, hl, _ => by
  simp only [St.look, Option.some.injEq] at hl
  subst hl
  exact ⟨hc.2, by rw [hc.1]⟩
 | .nil, t, cs, v', u, hc, hl, _ => by
  cases t <;> simp only [St.look, Option.some.injEq] at hl <;> try (cases hl; done)
  subst hl
  cases u <;> try exact hc.elim
  exact ⟨.inl ⟨hc, rfl⟩, rfl⟩
 | .pr A B, t, cs, v', u, hc, hl, hr => by
  cases t <;> simp only [St.look] at hl <;> try (cases hl; done)
  rename_i ta tb
  split at hl <;> try (cases hl; done)
  rename_i va vb h1 h2
  simp only [Option.some.injEq] at hl
  subst hl
  simp only [rootsOf, List.append_eq_nil_iff] at hr
  cases u <;> try exact hc.elim
  rename_i ua ub
  obtain ⟨c, d, e, l1, l2, c1, c2⟩ := hc
  obtain ⟨k1, k2⟩ := look_val A ta c va ua c1 h1 hr.1
  obtain ⟨k3, k4⟩ := look_val B tb d vb ub c2 h2 hr.2
  exact ⟨⟨c, d, e, k1, k3⟩, rfl⟩
 | .ref id p, t, cs, v', u, hc, hl, hr => by simp [rootsOf] at hr
 | .sub id p lo hi, t, cs, v', u, hc, hl, hr => by simp [rootsOf] at hr
 | .dead, t, cs, v', u, hc, hl, hr => by simp [St.look] at hl
 | .addr _ _, t, cs, v', u, hc, hl, hr => by simp [St.look] at hl
 | .saddr _, t, cs, v', u, hc, hl, hr => by simp [St.look] at hl
 | .fn _, t, cs, v', u, hc, hl, hr => by simp [St.look] at hl
 | .nilfn, t, cs, v', u, hc, hl, hr => by simp [St.look] at hl
 | .tup _, t, cs, v', u, hc, hl, hr => by simp [St.look] at hl
 | .tad _, t, cs, v', u, hc, hl, hr => by simp [St.look] at hl
theorem sameIds_eq : ∀ {l k : List Id}, sameIds l k = true → l = k
 | [], [], _ => rfl
 | a :: l, b :: k, h => by
  simp only [sameIds, Bool.and_eq_true] at h
  rw [sameId_eq.1 h.1, sameIds_eq h.2]
 | [], b :: k, h => by simp [sameIds] at h
 | a :: l, [], h => by simp [sameIds] at h
theorem sameFn_eq {f h : FnV} (e : sameFn f h = true) : f = h := by
 simp only [sameFn, Bool.and_eq_true] at e
 cases f; cases h
 simp only [FnV.mk.injEq]
 exact ⟨Nat.eq_of_beq_eq_true e.1, sameIds_eq e.2⟩
theorem covers_meet {m' m : Mask} (h : m'.covers m = true) : m'.meet m = m := by simpa [Mask.covers] using h
theorem disj_not {l k : List Id} (h : disj l k = true) {id : Id} (hi : id ∈ l) : id ∉ k := by
 simp only [disj, List.all_eq_true, Bool.not_eq_true'] at h
 intro hm
 have := h id hi
 rw [memId_iff.2 hm] at this
 cases this
theorem not_nl {own : List Id} {id : Id} (h : id ∉ own) : (memId own id && isNil (s.tmp id.1)) = false := by
 rw [Bool.and_eq_false_iff]
 left
 rw [Bool.eq_false_iff]
 intro e
 exact h (memId_iff.1 e)
inductive TmOk (s : St) (own : List Id) (n : Nat) : TV → Prop
 | val {t v} : s.look t (s.tmp n) = some v → rootsOf (s.tmp n) = [] → TmOk s own n (.val v)
 | own : (n, 0) ∈ own → (s.tmp n = .nil ∨ s.tmp n = .ref (n, 0) []) → TmOk s own n (.ref (n, 0) [])
 | same {v} : v = s.tmp n → (∀ l, v ≠ .tup l) → (∀ id, v.looks false id = true → (memId own id && isNil (s.tmp id.1)) = false) → TmOk s own n v
 | «alias» {id} : id ∈ own → s.tmp n = .nil → isNil (s.tmp id.1) = true → TmOk s own n (.ref id [])
def OwnAt (s : St) (l : List (Nat × Sh)) (id : Id) (o : Option Ob) : Prop :=
 ∃ n m t xs, id = (n, 0) ∧ (n, Sh.own m t) ∈ l ∧ o = some (.vec m t xs) ∧ ((s.tmp n = .nil ∧ xs = []) ∨ (s.tmp n = .ref (n, 0) [] ∧ ∃ m', s.obj (n, 0) = some (.vec m' t xs) ∧ m'.meet m = m))
theorem OwnAt.cons {l : List (Nat × Sh)} {x : Nat × Sh} {id : Id} {o : Option Ob} (h : OwnAt s l id o) : OwnAt s (x :: l) id o := by
 obtain ⟨n, m, t, xs, h1, h2, h3⟩ := h
 exact ⟨n, m, t, xs, h1, List.mem_cons_of_mem _ h2, h3⟩
structure TmSpec (s : St) (own : List Id) (l : List (Nat × Sh)) (S0 S : St) : Prop where
 tmp : ∀ n, S.tmp n = S0.tmp n ∨ TmOk s own n (S.tmp n)
 obj : ∀ id, S.obj id = S0.obj id ∨ OwnAt s l id (S.obj id)
 own : ∀ id, id ∈ ownIds l → OwnAt s l id (S.obj id)
 hole : S.hole = S0.hole
theorem tmSpec_set {own : List Id} {l : List (Nat × Sh)} {n : Nat} {sh : Sh} {v : TV} {S0 S : St} (hv : TmOk s own n v) (hs : ownIds ((n, sh) :: l) = ownIds l) (h : TmSpec s own l (S0.set n v) S) : TmSpec s own ((n, sh) :: l) S0 S where
 tmp k := by
  rcases h.tmp k with e | e
  · rw [e]
    by_cases hk : k = n
    · subst hk; right; simp only [St.set, upd_same]; exact hv
    · left; simp only [St.set, upd_ne _ _ hk]
  · exact .inr e
 obj id := (h.obj id).imp (fun e => e) OwnAt.cons
 own id hi := by rw [hs] at hi; exact (h.own id hi).cons
 hole := h.hole
theorem idxAt_some : ∀ (p q r : List Step) (n : Nat), idxAt p q r = some n → r = p ++ .idx n :: q
 | [], q, .idx k :: r, n, h => by
  simp only [idxAt] at h
  cases hc : sameSteps r q
  · simp [hc] at h
  · simp only [hc, cond_true, Option.some.injEq] at h
    subst h
    rw [sameSteps_eq hc]; rfl
 | .fst :: p, q, .fst :: r, n, h => by
  simp only [idxAt] at h
  rw [idxAt_some p q r n h]; rfl
 | .snd :: p, q, .snd :: r, n, h => by
  simp only [idxAt] at h
  rw [idxAt_some p q r n h]; rfl
 | [], _, [], n, h | [], _, .fst :: _, n, h | [], _, .snd :: _, n, h | [], _, .arr _ :: _, n, h => by simp [idxAt] at h
 | .fst :: _, _, [], n, h | .fst :: _, _, .snd :: _, n, h | .fst :: _, _, .idx _ :: _, n, h | .fst :: _, _, .arr _ :: _, n, h => by simp [idxAt] at h
 | .snd :: _, _, [], n, h | .snd :: _, _, .fst :: _, n, h | .snd :: _, _, .idx _ :: _, n, h | .snd :: _, _, .arr _ :: _, n, h => by simp [idxAt] at h
 | .idx _ :: _, _, _, n, h | .arr _ :: _, _, _, n, h => by simp [idxAt] at h
theorem PT.E_V : ∀ (T : PT) (v : TV) (x : T.P), T.E v = some x → T.V x = v
 | .val t, v, x, h => by
  cases v <;> simp only [PT.E] at h <;> try (cases h; done)
  have e := castTo_some h
  simp only [PT.V]
  exact congrArg TV.val e.symm
 | .nil, v, x, h => by
  cases v <;> simp only [PT.E] at h <;> try (cases h; done)
  rfl
 | .ref i p, v, x, h => by
  cases v <;> simp only [PT.E] at h <;> try (cases h; done)
  rename_i j q
  cases hc : (sameId j i && sameSteps q p)
  · simp [hc] at h
  · simp only [Bool.and_eq_true] at hc
    have e := sameId_eq.1 hc.1
    subst e
    have e := sameSteps_eq hc.2
    subst e
    rfl
 | .pr a b, v, x, h => by
  cases v <;> simp only [PT.E] at h <;> try (cases h; done)
  rename_i y z
  split at h <;> try (cases h; done)
  rename_i p hp
  split at h <;> try (cases h; done)
  rename_i q hq
  injection h with h
  subst h
  simp only [PT.V]
  rw [PT.E_V a y p hp, PT.E_V b z q hq]
 | .rix i p q, v, x, h => by
  cases v <;> simp only [PT.E] at h <;> try (cases h; done)
  rename_i j r
  cases hc : sameId j i
  · simp [hc] at h
  · simp only [hc, cond_true] at h
    have e := sameId_eq.1 hc
    subst e
    simp only [PT.V]
    rw [← idxAt_some _ _ _ _ h]
 | .sub i p, v, x, h => by
  cases v <;> simp only [PT.E] at h <;> try (cases h; done)
  rename_i j q lo hi
  cases hc : (sameId j i && sameSteps q p)
  · simp [hc] at h
  · simp only [hc, cond_true, Option.some.injEq] at h
    simp only [Bool.and_eq_true] at hc
    have e := sameId_eq.1 hc.1
    subst e
    have e := sameSteps_eq hc.2
    subst e
    subst h
    rfl
theorem PT.looks_roots : ∀ (T : PT) (x : T.P) (id : Id), (T.V x).looks false id = true → id ∈ rootsOf (T.V x)
 | .val t, x, id, h => by simp [PT.V, TV.looks] at h
 | .nil, x, id, h => by simp [PT.V, TV.looks] at h
 | .ref i p, x, id, h => by
  simp only [PT.V, TV.looks, Bool.not_false, Bool.true_or, Bool.and_true] at h
  rw [sameId_eq.1 h]
  simp [PT.V, rootsOf]
 | .pr a b, x, id, h => by
  simp only [PT.V, TV.looks, Bool.or_eq_true] at h
  simp only [PT.V, rootsOf, List.mem_append]
  exact h.imp (PT.looks_roots a x.1 id) (PT.looks_roots b x.2 id)
 | .rix i p q, x, id, h => by
  simp only [PT.V, TV.looks, Bool.not_false, Bool.true_or, Bool.and_true] at h
  rw [sameId_eq.1 h]
  simp [PT.V, rootsOf]
 | .sub i p, x, id, h => by
  simp only [PT.V, TV.looks, Bool.not_false, Bool.true_or, Bool.and_true] at h
  rw [sameId_eq.1 h]
  simp [PT.V, rootsOf]
theorem PT.not_tup (T : PT) (x : T.P) (l : List TV) : T.V x ≠ .tup l := by cases T <;> simp [PT.V]
theorem tmS_spec {own : List Id} : ∀ (l : List (Nat × Sh)) (p : tmP l) (S0 : St), tmE s own l = some p → (∀ x ∈ l, disj x.2.ids own = true) → (∀ id ∈ ownIds l, id ∈ own) → TmSpec s own l S0 (tmS l p S0)
 | [], p, S0, h, _, _ => ⟨fun _ => .inl rfl, fun _ => .inl rfl, fun id hi => by simp [ownIds] at hi, rfl⟩
 | (n, .str T) :: l, p, S0, h, hd, ho => by
  simp only [tmE] at h
  split at h <;> try (cases h; done)
  rename_i x hx
  cases hc : ((rootsOf (s.tmp n)).all fun id => !(memId own id && isNil (s.tmp id.1)))
  · rw [hc] at h; cases h
  · rw [hc] at h
    simp only [cond_true] at h
    split at h <;> try (cases h; done)
    rename_i q hq
    simp only [Option.some.injEq] at h
    subst h
    have e := PT.E_V T _ _ hx
    rw [List.all_eq_true] at hc
    refine tmSpec_set (.same e (T.not_tup x) (fun id hid => ?_)) rfl (tmS_spec l q _ hq (fun x hx => hd x (by simp [hx])) (fun id hi => ho id (by simpa [ownIds] using hi)))
    have := hc id (by rw [← e]; exact T.looks_roots x id hid)
    simpa only [Bool.not_eq_true'] using this
 | (n, .val t) :: l, p, S0, h, hd, ho => by
  simp only [tmE] at h
  cases hr : (rootsOf (s.tmp n)).isEmpty
  · simp [hr] at h
  · simp only [hr, cond_true] at h
    split at h <;> try (cases h; done)
    rename_i v hv
    split at h <;> try (cases h; done)
    rename_i x hx
    split at h <;> try (cases h; done)
    rename_i q hq
    simp only [Option.some.injEq] at h
    subst h
    have e := castTo_some hx
    subst e
    exact tmSpec_set (.val hv (by simpa using hr)) rfl (tmS_spec l q _ hq (fun x hx => hd x (by simp [hx])) (fun id hi => ho id (by simpa [ownIds] using hi)))
 | (n, .own m t) :: l, p, S0, h, hd, ho => by
  have main : ∀ (ys : List t.den) (q : tmP l), tmE s own l = some q → ((s.tmp n = .nil ∧ ys = []) ∨ (s.tmp n = .ref (n, 0) [] ∧ ∃ m', s.obj (n, 0) = some (.vec m' t ys) ∧ m'.meet m = m)) → TmSpec s own ((n, .own m t) :: l) S0 (tmS l q ((S0.set n (.ref (n, 0) [])).put (n, 0) (.vec m t ys))) := by
   intro ys q hq hh
   have k := tmS_spec (own := own) l q ((S0.set n (.ref (n, 0) [])).put (n, 0) (.vec m t ys)) hq (fun x hx => hd x (by simp [hx])) (fun id hi => ho id (by simp [ownIds, hi]))
   have hon : (n, 0) ∈ own := ho _ (by simp [ownIds])
   have hat : OwnAt s ((n, .own m t) :: l) (n, 0) (some (.vec m t ys)) := ⟨n, m, t, ys, rfl, by simp, rfl, hh⟩
   refine ⟨fun i => ?_, fun id => ?_, fun id hi => ?_, k.hole⟩
   · rcases k.tmp i with e | e
     · rw [e]
       by_cases hi : i = n
       · subst hi; right; simp only [St.set, St.put, upd_same]; exact .own hon (hh.imp (fun h => h.1) (fun h => h.1))
       · left; simp only [St.set, St.put, upd_ne _ _ hi]
     · exact .inr e
   · rcases k.obj id with e | e
     · rw [e, put_obj]
       by_cases hi : id = (n, 0)
       · subst hi; rw [if_pos rfl]; exact .inr hat
       · rw [if_neg hi]; exact .inl rfl
     · exact .inr e.cons
   · simp only [ownIds, List.mem_cons] at hi
     rcases k.obj id with e | e
     · by_cases hi' : id = (n, 0)
       · rw [e, put_obj, if_pos hi']; subst hi'; exact hat
       · exact (k.own id (hi.resolve_left hi')).cons
     · exact e.cons
  simp only [tmE] at h
  split at h <;> try (cases h; done)
  · rename_i hn
    split at h <;> try (cases h; done)
    rename_i q hq
    simp only [Option.some.injEq] at h
    subst h
    exact main [] q hq (.inl ⟨hn, rfl⟩)
  · rename_i id hn
    split at h <;> try (cases h; done)
    rename_i m' t' xs hob
    cases hc : (sameId id (n, 0) && m'.covers m)
    · simp [hc] at h
    · simp only [hc, cond_true] at h
      simp only [Bool.and_eq_true] at hc
      split at h <;> try (cases h; done)
      rename_i ys hys
      split at h <;> try (cases h; done)
      rename_i q hq
      simp only [Option.some.injEq] at h
      subst h
      have e := castTo_some hys
      injection e with e1 e2
      injection e1 with e1
      subst e1
      have e2 := eq_of_heq e2
      subst e2
      have e3 := sameId_eq.1 hc.1
      subst e3
      exact main _ q hq (.inr ⟨hn, m', hob, covers_meet hc.2⟩)
 | (n, .ptr id) :: l, p, S0, h, hd, ho => by
  simp only [tmE] at h
  split at h <;> try (cases h; done)
  rename_i i hi
  cases hc : sameId i id
  · simp [hc] at h
  · simp only [hc, cond_true] at h
    have e := sameId_eq.1 hc
    subst e
    refine tmSpec_set (.same hi.symm (by simp) (fun id hid => ?_)) rfl (tmS_spec l p _ h (fun x hx => hd x (by simp [hx])) (fun id hi => ho id (by simpa [ownIds] using hi)))
    simp only [TV.looks, Bool.not_false, Bool.true_or, Bool.and_true] at hid
    have e := sameId_eq.1 hid
    subst e
    exact not_nl (disj_not (hd (n, .ptr i) (by simp)) (by simp [Sh.ids]))
 | (n, .same id q) :: l, p, S0, h, hd, ho => by
  have tail := fun (h : tmE s own l = some p) => tmS_spec (own := own) l p (S0.set n (.ref id q)) h (fun x hx => hd x (by simp [hx])) (fun id hi => ho id (by simpa [ownIds] using hi))
  simp only [tmE] at h
  split at h <;> try (cases h; done)
  · rename_i i r hi
    cases hc : (sameId i id && sameSteps q r && !isNil (s.tmp id.1))
    · simp [hc] at h
    · simp only [hc, cond_true] at h
      simp only [Bool.and_eq_true, Bool.not_eq_true'] at hc
      have e := sameId_eq.1 hc.1.1
      subst e
      have e := sameSteps_eq hc.1.2
      subst e
      refine tmSpec_set (.same hi.symm (by simp) (fun id hid => ?_)) rfl (tail h)
      simp only [TV.looks, Bool.not_false, Bool.true_or, Bool.and_true] at hid
      have e := sameId_eq.1 hid
      subst e
      rw [hc.2, Bool.and_false]
  · rename_i hi
    cases q with
    | cons x q => cases h
    | nil =>
     simp only at h
     cases hc : (memId own id && isNil (s.tmp id.1))
     · simp [hc] at h
     · simp only [hc, cond_true] at h
       simp only [Bool.and_eq_true] at hc
       exact tmSpec_set (.«alias» (memId_iff.1 hc.1) hi hc.2) rfl (tail h)
 | (n, .adp id q) :: l, p, S0, h, hd, ho => by
  simp only [tmE] at h
  split at h <;> try (cases h; done)
  rename_i i r hi
  cases hc : (sameId i id && sameSteps q r)
  · simp [hc] at h
  · simp only [hc, cond_true] at h
    simp only [Bool.and_eq_true] at hc
    have e := sameId_eq.1 hc.1
    subst e
    have e := sameSteps_eq hc.2
    subst e
    refine tmSpec_set (.same hi.symm (by simp) (fun id hid => ?_)) rfl (tmS_spec l p _ h (fun x hx => hd x (by simp [hx])) (fun id hi => ho id (by simpa [ownIds] using hi)))
    simp only [TV.looks, Bool.not_false, Bool.true_or, Bool.and_true] at hid
    have e := sameId_eq.1 hid
    subst e
    exact not_nl (disj_not (hd (n, .adp i q) (by simp)) (by simp [Sh.ids]))
 | (n, .adi id q) :: l, p, S0, h, hd, ho => by
  simp only [tmE] at h
  split at h <;> try (cases h; done)
  rename_i i k r hi
  cases hc : (sameId i id && sameSteps q r)
  · simp [hc] at h
  · simp only [hc, cond_true] at h
    split at h <;> try (cases h; done)
    rename_i p' hp'
    simp only [Option.some.injEq] at h
    subst h
    simp only [Bool.and_eq_true] at hc
    have e := sameId_eq.1 hc.1
    subst e
    have e := sameSteps_eq hc.2
    subst e
    refine tmSpec_set (.same hi.symm (by simp) (fun id hid => ?_)) rfl (tmS_spec l p' _ hp' (fun x hx => hd x (by simp [hx])) (fun id hi => ho id (by simpa [ownIds] using hi)))
    simp only [TV.looks, Bool.not_false, Bool.true_or, Bool.and_true] at hid
    have e := sameId_eq.1 hid
    subst e
    exact not_nl (disj_not (hd (n, .adi i q) (by simp)) (by simp [Sh.ids]))
 | (n, .cst t) :: l, p, S0, h, hd, ho => by
  simp only [tmE] at h
  split at h <;> try (cases h; done)
  rename_i v hv
  split at h <;> try (cases h; done)
  rename_i x hx
  split at h <;> try (cases h; done)
  rename_i q hq
  simp only [Option.some.injEq] at h
  subst h
  have e := castTo_some hx
  subst e
  exact tmSpec_set (.same hv.symm (by simp) (fun id hid => by simp [TV.looks] at hid)) rfl (tmS_spec l q _ hq (fun x hx => hd x (by simp [hx])) (fun id hi => ho id (by simpa [ownIds] using hi)))
 | (n, .fn f) :: l, p, S0, h, hd, ho => by
  simp only [tmE] at h
  split at h <;> try (cases h; done)
  rename_i f' hi
  cases hc : sameFn f f'
  · simp [hc] at h
  · simp only [hc, cond_true] at h
    have e := sameFn_eq hc
    subst e
    refine tmSpec_set (.same hi.symm (by simp) (fun id hid => ?_)) rfl (tmS_spec l p _ h (fun x hx => hd x (by simp [hx])) (fun id hi => ho id (by simpa [ownIds] using hi)))
    simp only [TV.looks, Bool.not_false, Bool.true_and, List.any_eq_true] at hid
    obtain ⟨i, hi, e⟩ := hid
    have e := sameId_eq.1 e
    subst e
    exact not_nl (disj_not (hd (n, .fn f) (by simp)) (by simpa [Sh.ids] using hi))
def ObAt (s : St) (id : Id) (o : Option Ob) : Prop := ∃ o0 o1, s.obj id = some o0 ∧ o = some o1 ∧ Weak o0 o1
structure ObSpec (s : St) (l : List (Id × OSh)) (S0 S : St) : Prop where
 tmp : S.tmp = S0.tmp
 obj : ∀ id, S.obj id = S0.obj id ∨ (id ∈ l.map (·.1) ∧ ObAt s id (S.obj id))
 hole : S.hole = S0.hole
theorem obSpec_put {l : List (Id × OSh)} {id : Id} {sh : OSh} {o0 o : Ob} {S0 S : St} (ho : s.obj id = some o0) (hw : Weak o0 o) (h : ObSpec s l (S0.put id o) S) : ObSpec s ((id, sh) :: l) S0 S where
 tmp := h.tmp
 obj i := by
  rcases h.obj i with e | ⟨e1, e2⟩
  · by_cases hi : i = id
    · subst hi
      right
      rw [e, put_obj, if_pos rfl]
      exact ⟨by simp, o0, o, ho, rfl, hw⟩
    · left; rw [e, put_obj, if_neg hi]
  · exact .inr ⟨List.mem_cons_of_mem _ e1, e2⟩
 hole := h.hole
theorem obS_spec : ∀ (l : List (Id × OSh)) (p : obP l) (S0 : St), obE s l = some p → ObSpec s l S0 (obS l p S0)
 | [], p, S0, h => ⟨rfl, fun _ => .inl rfl, rfl⟩
 | (id, .box m t) :: l, p, S0, h => by
  simp only [obE] at h
  split at h <;> try (cases h; done)
  rename_i m' v hob
  cases hc : m'.covers m
  · simp [hc] at h
  · simp only [hc, cond_true] at h
    split at h <;> try (cases h; done)
    rename_i x hx
    split at h <;> try (cases h; done)
    rename_i q hq
    simp only [Option.some.injEq] at h
    subst h
    have e := castTo_some hx
    subst e
    exact obSpec_put hob (.box (covers_meet hc)) (obS_spec l q _ hq)
 | (id, .vec m t) :: l, p, S0, h => by
  simp only [obE] at h
  split at h <;> try (cases h; done)
  rename_i m' t' xs hob
  cases hc : m'.covers m
  · simp [hc] at h
  · simp only [hc, cond_true] at h
    split at h <;> try (cases h; done)
    rename_i ys hys
    split at h <;> try (cases h; done)
    rename_i q hq
    simp only [Option.some.injEq] at h
    subst h
    have e := castTo_some hys
    injection e with e1 e2
    injection e1 with e1
    subst e1
    have e2 := eq_of_heq e2
    subst e2
    exact obSpec_put hob (.vec (covers_meet hc)) (obS_spec l q _ hq)
 | (id, .fbox f) :: l, p, S0, h => by
  simp only [obE] at h
  split at h <;> try (cases h; done)
  rename_i f' hob
  cases f with
  | none =>
   cases f' with
   | none => exact obSpec_put hob .fbox (obS_spec l p _ h)
   | some f' => cases h
  | some f =>
   cases f' with
   | none => cases h
   | some f' =>
    simp only at h
    cases hc : sameFn f f'
    · simp [hc] at h
    · simp only [hc, cond_true] at h
      have e := sameFn_eq hc
      subst e
      exact obSpec_put hob .fbox (obS_spec l p _ h)
theorem ownIds_zero : ∀ (l : List (Nat × Sh)) (id : Id), id ∈ ownIds l → id.2 = 0
 | [], id, h => by simp [ownIds] at h
 | (n, .own m t) :: l, id, h => by
  simp only [ownIds, List.mem_cons] at h
  rcases h with h | h
  · rw [h]
  · exact ownIds_zero l id h
 | (n, .str _) :: l, id, h => ownIds_zero l id (by simpa [ownIds] using h)
 | (n, .val _) :: l, id, h => ownIds_zero l id (by simpa [ownIds] using h)
 | (n, .ptr _) :: l, id, h => ownIds_zero l id (by simpa [ownIds] using h)
 | (n, .adp _ _) :: l, id, h => ownIds_zero l id (by simpa [ownIds] using h)
 | (n, .adi _ _) :: l, id, h => ownIds_zero l id (by simpa [ownIds] using h)
 | (n, .cst _) :: l, id, h => ownIds_zero l id (by simpa [ownIds] using h)
 | (n, .same _ _) :: l, id, h => ownIds_zero l id (by simpa [ownIds] using h)
 | (n, .fn _) :: l, id, h => ownIds_zero l id (by simpa [ownIds] using h)
theorem ownIds_small : ∀ (l : List (Nat × Sh)) (id : Id), id ∈ ownIds l → (∀ x ∈ l, x.1 < 1000000) → id.1 < 1000000
 | [], id, h, _ => by simp [ownIds] at h
 | (n, .own m t) :: l, id, h, hk => by
  simp only [ownIds, List.mem_cons] at h
  rcases h with h | h
  · rw [h]; exact hk (n, .own m t) (by simp)
  · exact ownIds_small l id h fun x hx => hk x (by simp [hx])
 | (n, .str _) :: l, id, h, hk => ownIds_small l id (by simpa [ownIds] using h) fun x hx => hk x (by simp [hx])
 | (n, .val _) :: l, id, h, hk => ownIds_small l id (by simpa [ownIds] using h) fun x hx => hk x (by simp [hx])
 | (n, .ptr _) :: l, id, h, hk => ownIds_small l id (by simpa [ownIds] using h) fun x hx => hk x (by simp [hx])
 | (n, .adp _ _) :: l, id, h, hk => ownIds_small l id (by simpa [ownIds] using h) fun x hx => hk x (by simp [hx])
 | (n, .adi _ _) :: l, id, h, hk => ownIds_small l id (by simpa [ownIds] using h) fun x hx => hk x (by simp [hx])
 | (n, .cst _) :: l, id, h, hk => ownIds_small l id (by simpa [ownIds] using h) fun x hx => hk x (by simp [hx])
 | (n, .same _ _) :: l, id, h, hk => ownIds_small l id (by simpa [ownIds] using h) fun x hx => hk x (by simp [hx])
 | (n, .fn _) :: l, id, h, hk => ownIds_small l id (by simpa [ownIds] using h) fun x hx => hk x (by simp [hx])
theorem mem_ownIds {n : Nat} {m : Mask} {t : Ty} : ∀ {l : List (Nat × Sh)}, (n, Sh.own m t) ∈ l → (n, 0) ∈ ownIds l
 | [], h => by simp at h
 | (i, sh) :: l, h => by
  rcases List.mem_cons.1 h with h | h
  · cases h; simp [ownIds]
  · have := mem_ownIds h
    cases sh <;> simp [ownIds, this]
def rootMask (S : St) (id : Id) : Option Mask := match S.obj id with
 | some o => match o.root with
  | some (m, _) => some m
  | none => none
 | none => none
theorem tpl_step {J : Tpl} (hok : J.ok = true) {p : J.P} (hh : s.hole = none) (htm : tmE s (ownIds J.tm) J.tm = some p.1) (hob : obE s J.ob = some p.2) (h : R g0 w0 N s g a w) : ∃ g', R g0 w0 N (J.S p) g' a w := by
 simp only [Tpl.ok, Bool.and_eq_true, List.all_eq_true] at hok
 obtain ⟨⟨⟨_, hnd⟩, htmok⟩, hobok⟩ := hok
 have hnd := nodup_ids hnd
 have hO := obS_spec J.ob p.2 St.empty hob
 have hT := tmS_spec (own := ownIds J.tm) J.tm p.1 (obS J.ob p.2 St.empty) htm (fun x hx => (htmok x hx).1) (fun _ h => h)
 have hsmall : ∀ id, id ∈ ownIds J.tm → id.1 < 1000000 := fun id hi => ownIds_small J.tm id hi fun x hx => by
  have := (htmok x hx).2
  simpa [Nat.blt_eq] using this
 change ∃ g', R g0 w0 N (tmS J.tm p.1 (obS J.ob p.2 St.empty)) g' a w
 generalize hS : tmS J.tm p.1 (obS J.ob p.2 St.empty) = S at hT ⊢
 -- its objects
 have objs : ∀ id o, S.obj id = some o → (id ∈ ownIds J.tm ∧ OwnAt s J.tm id (some o)) ∨ (id ∉ ownIds J.tm ∧ ∃ o0, s.obj id = some o0 ∧ Weak o0 o) := by
  intro id o e
  by_cases hi : id ∈ ownIds J.tm
  · left; have := hT.own id hi; rw [e] at this; exact ⟨hi, this⟩
  · right
    refine ⟨hi, ?_⟩
    rcases hT.obj id with k | k
    · rcases hO.obj id with q | ⟨_, q⟩
      · rw [e, q] at k; cases k
      · obtain ⟨o0, o1, q1, q2, q3⟩ := q
        rw [e, q2] at k
        injection k with k
        subst k
        exact ⟨o0, q1, q3⟩
    · obtain ⟨n, m, t, xs, k1, k2, _⟩ := k
      subst k1
      exact absurd (mem_ownIds k2) hi
 let nl : Id → Bool := fun id => memId (ownIds J.tm) id && isNil (s.tmp id.1)
 have hnl : ∀ id, id ∉ ownIds J.tm → nl id = false := fun id hi => by
  simp only [nl, Bool.and_eq_false_iff]
  left
  rw [Bool.eq_false_iff]
  intro e
  exact hi (memId_iff.1 e)
 have hgo : ∀ id o, s.obj id = some o → RootRep g w none id o := fun id o e => by
  have := h.objs id o e
  rwa [St.hl, hh] at this
 have hsig : ∀ id, nl id = false → ∀ sg, S.sig id = some sg → s.sig id = some sg := by
  intro id hi sg hsg
  simp only [St.sig] at hsg ⊢
  cases e : S.obj id with
  | none => simp [e] at hsg
  | some o =>
   simp only [e, Option.map_some, Option.some.injEq] at hsg
   rcases objs id o e with ⟨k, n, m, t, xs, k1, k2, k3, k4⟩ | ⟨_, o0, k1, k2⟩
   · injection k3 with k3
     subst k3
     subst k1
     rcases k4 with ⟨k4, _⟩ | ⟨_, m', k5, _⟩
     · simp [nl, memId_iff.2 k, k4, isNil] at hi
     · rw [k5, ← hsg]; rfl
   · rw [k1, ← hsg, k2.sig]; rfl
 refine ⟨g.thin (rootMask S) nl (fun _ => none), ?_⟩
 have hroot : ∀ id o, S.obj id = some o → RootRep (g.thin (rootMask S) nl (fun _ => none)) w none id o := by
  intro id o e
  have hM : ∀ m v, o.root = some (m, v) → rootMask S id = some m := fun m v hr => by simp [rootMask, e, hr]
  have hF : (∃ f, o = .fbox f) → rootMask S id = none := fun ⟨f, hf⟩ => by subst hf; simp [rootMask, e, Ob.root]
  rcases objs id o e with ⟨k, n, m, t, xs, k1, k2, k3, k4⟩ | ⟨k, o0, k1, k2⟩
  · injection k3 with k3
    subst k3
    subst k1
    rcases k4 with ⟨k4, k5⟩ | ⟨k4, m', k5, k6⟩
    · subst k5
      refine .inl ⟨?_, rfl⟩
      have : nl (n, 0) = true := by simp [nl, memId_iff.2 k, k4, isNil]
      simp [Gh.thin, this]
    · have : nl (n, 0) = false := by simp [nl, k4, isNil]
      exact RootRep.thin (.vec k6) hM hF this (hgo _ _ k5)
  · exact RootRep.thin k2 hM hF (hnl id k) (hgo _ _ k1)
 have hhole : S.hole = none := by rw [hT.hole, hO.hole]; rfl
 exact {
  frame := h.frame.trans thin_le
  tmps := fun n => by
   rcases hT.tmp n with e | e
   · rw [e, hO.tmp]; trivial
   · have hs := h.tmps n
     revert e
     generalize S.tmp n = v
     intro e
     cases e with
     | @val t v hv hr =>
      have hs1 : TRep1 g w s.sig (s.tmp n) (a.tmps.getD n undef) := by
       cases e : s.tmp n <;> rw [e] at hs hv <;> first | exact hs | (simp [St.look] at hv; done)
      obtain ⟨u, cs, c1, c2⟩ : ∃ u cs, TC g w s.sig (s.tmp n) u cs ∧ a.tmps.getD n undef = wrap u cs := by
       cases e : s.tmp n <;> rw [e] at hs1 hv hr <;> first | exact hs1 | (simp [St.look] at hv; done) | skip
       · exact ⟨.list .unit, _, rfl, hs1⟩
       · rename_i v0
         obtain ⟨cs, c1, c2⟩ := hs1
         exact ⟨v0.t, cs, ⟨rfl, c1⟩, c2⟩
      obtain ⟨k1, k2⟩ := look_val _ _ _ _ _ c1 hv hr
      exact ⟨cs, k1.le thin_le, by rw [c2, k2]⟩
     | own ho hv =>
      obtain ⟨n', m, t, xs, k1, k2, k3, k4⟩ := hT.own _ ho
      injection k1 with k1
      subst k1
      refine ⟨.list t, [(g.thin (rootMask S) nl (fun _ => none)).hdr (some (n, 0)) []], ⟨rfl, fun sg hsg => ?_⟩, ?_⟩
      · simp only [St.sig, k3, Option.map_some, Option.some.injEq] at hsg
        subst hsg
        exact ⟨rfl, .inl ⟨rfl, t, rfl⟩⟩
      · show _ = (g.thin (rootMask S) nl (fun _ => none)).hdr (some (n, 0)) []
        rcases hv with hv | hv
        · have : nl (n, 0) = true := by simp [nl, memId_iff.2 ho, hv, isNil]
          rw [hv] at hs
          simp only [Gh.thin, this, if_true]
          exact hs
        · have : nl (n, 0) = false := by simp [nl, hv, isNil]
          rw [hv] at hs
          obtain ⟨u, cs, c1, c2⟩ := hs
          rw [thin_hdr this]
          cases u <;> try exact c1.elim
          rw [c2, c1.1]
          rfl
     | same hv hnt hl =>
      subst hv
      refine TRep.le thin_le _ _ (fun id hid => ⟨fun r => thin_hdr (hl id hid) r, rfl, fun sg hsg => hsig id (hl id hid) sg hsg⟩) hs
     | @«alias» id ho hv hn =>
      obtain ⟨n', m, t, xs, k1, k2, k3, k4⟩ := hT.own _ ho
      subst k1
      refine ⟨.list t, [(g.thin (rootMask S) nl (fun _ => none)).hdr (some (n', 0)) []], ⟨rfl, fun sg hsg => ?_⟩, ?_⟩
      · simp only [St.sig, k3, Option.map_some, Option.some.injEq] at hsg
        subst hsg
        exact ⟨rfl, .inl ⟨rfl, t, rfl⟩⟩
      · show _ = (g.thin (rootMask S) nl (fun _ => none)).hdr (some (n', 0)) []
        have : nl (n', 0) = true := by simp only [nl, Bool.and_eq_true]; exact ⟨memId_iff.2 ho, hn⟩
        rw [hv] at hs
        simp only [Gh.thin, this, if_true]
        exact hs
  objs := fun id o e => by rw [St.hl, hhole]; exact hroot id o e
  lives := thin_lives h.lives
  defers := h.defers
  size := h.size
  small := h.small
  ext := fun id o e hi => by
   rcases objs id o e with ⟨k, _⟩ | ⟨k, o0, k1, k2⟩
   · exact absurd (hsmall id k) (by omega)
   · have := h.ext id o0 k1 hi
     exact ⟨this.1, fun hu => by rw [thin_hdr (hnl id k)]; exact this.2 (by rw [← k2.sig]; exact hu)⟩ }
theorem tpl_ok {J : Tpl} (hok : J.ok = true) : TplOk J := by
 intro g0 w0 N s g a w p hE h
 unfold Tpl.E at hE
 split at hE <;> try (cases hE; done)
 rename_i hh
 split at hE <;> try (cases hE; done)
 rename_i p1 h1
 split at hE <;> try (cases hE; done)
 rename_i p2 h2
 simp only [Option.some.injEq] at hE
 subst hE
 obtain ⟨k1, k2, _⟩ := R.freezes J.fr h hh
 exact tpl_step hok k2 h1 h2 k1
end
end Go.Ve
namespace Go.Ve
open Go Go.RowKit
section
variable {P : Program} {g0 : Gh} {w0 : Fra} {N : Nat} {s : St} {g : Gh} {a : Act} {w : World} {α : Type} {r : α} {Q : Exit → Act → World → Prop} {cx : Cx} {o : Oper} {K : St → Option α}
theorem fl_set (hR : R g0 w0 N s g a w) (hd : ∀ t, o.dst = some t → t < N) {v : TV} {mv : Value} (hk : K (s.setD o.dst v) = some r) (hv : TRep g w s.sig v mv)
  (hr : ∀ w2, (execOp a.eval o).run P w2 = .ok (.value mv) w2) : ∃ mv, (∀ g2 w2, Le g w g2 w2 → (execOp a.eval o).run P w2 = .ok (.value mv) w2) ∧ Next g0 w0 N K r (a.put o.dst mv) w :=
 ⟨mv, fun _ w2 _ => hr w2, _, _, hR.setD hd hv, hk⟩
theorem floats_sound (ht : TabOk' P cx.tab) (hR : R g0 w0 N s g a w) (hd : ∀ t, o.dst = some t → t < N) (hf : floats s o = true) (h : exec cx o s K = some r) :
  ∃ mv, (∀ g2 w2, Le g w g2 w2 → (execOp a.eval o).run P w2 = .ok (.value mv) w2) ∧ Next g0 w0 N K r (a.put o.dst mv) w := by
 cases hop : o.op <;> first | (simp only [exec, hop] at h; cases h; done) | (simp [floats, hop] at hf; done) | skip
 case call c =>
  cases hc : c.callee with
  | value fo => simp [floats, hop, hc] at hf
  | invoke x n => simp [floats, hop, hc] at hf
  | builtin b =>
   obtain ⟨fl, hev⟩ : ∃ fl, ∀ w2, (execOp a.eval o).run P w2 = (builtin b c.argTypes o.type fl (c.args.map a.eval)).run P w2 := by
    simp only [execOp, hop, resolve, hc, invoke, Sem.run_bind, Sem.run_pure, Result.andThen_ok]
    exact ⟨_, fun _ => rfl⟩
   cases b <;> simp only [exec, hop, hc] at h <;> first | (cases h; done) | (simp [floats, hop, hc] at hf; done) | skip
   case len =>
    split at h <;> try (cases h; done)
    rename_i x t hxs hts
    have hxs' : c.args = #[x] := by apply Array.ext'; simpa using hxs
    have hts' : c.argTypes = #[t] := by apply Array.ext'; simpa using hts
    split at h <;> try (cases h; done)
    rename_i i hi
    have hk := (ht.data t i hi).kind
    split at h <;> try (cases h; done)
    · rename_i hty
      simp only [hty] at hk
      split at h <;> try (cases h; done)
      rename_i b hv
      have hx := hR.ev x
      rw [hv] at hx
      refine fl_set hR hd h (TRep.mkInt _ _) fun w2 => (hev w2).trans ?_
      simp [builtin, hxs', hts', Builtin.len_, hx.str, run_underlying hk, goInt]
    · rename_i e hty
      simp only [hty] at hk
      obtain ⟨E, ie, ti, hk, _⟩ := hk
      split at h <;> try (cases h; done)
      rename_i n hn
      obtain ⟨ad, cap, e⟩ := len_sound hR hn
      refine fl_set hR hd h (TRep.mkInt _ _) fun w2 => (hev w2).trans ?_
      simp [builtin, hxs', hts', Builtin.len_, e, run_underlying hk, goInt]
   case max =>
    split at h <;> try (cases h; done)
    rename_i k x l hi
    have he := ints_sound hR _ _ hi
    refine fl_set hR hd h (TRep.mkInt _ _) fun w2 => (hev w2).trans ?_
    have he : List.map a.eval c.args.toList = Value.int k x :: l.map fun y => Value.int y.1 y.2 := he
    simp [builtin, Builtin.max_, he, run_foldl_max]
   case min =>
    split at h <;> try (cases h; done)
    rename_i k x l hi
    have he := ints_sound hR _ _ hi
    refine fl_set hR hd h (TRep.mkInt _ _) fun w2 => (hev w2).trans ?_
    have he : List.map a.eval c.args.toList = Value.int k x :: l.map fun y => Value.int y.1 y.2 := he
    simp [builtin, Builtin.min_, he, run_foldl_min]
 case move x =>
  simp only [exec, hop] at h
  exact fl_set hR hd h (hR.ev x) fun w2 => by simp [execOp, hop]
 case assign x =>
  simp only [exec, hop] at h
  split at h <;> try (cases h; done)
  rename_i d hdst
  cases hk : cx.keep d
  · simp only [hk, cond_false] at h
    obtain ⟨g', k⟩ := assign_sound hR (hd d hdst) (hR.ev x)
    exact ⟨a.eval x, fun _ w2 _ => by simp [execOp, hop], _, g', by rw [hdst]; exact k, h⟩
  · simp only [hk, cond_true] at h
    exact fl_set hR hd h (hR.ev x) fun w2 => by simp [execOp, hop]
 case pick c x y =>
  simp only [exec, hop] at h
  split at h <;> try (cases h; done)
  rename_i b hv
  have hc := hR.ev c
  rw [hv] at hc
  have hrun : ∀ w, (execOp a.eval o).run P w = .ok (.value (if b = true then a.eval x else a.eval y)) w := by
   intro w
   simp [execOp, hop, hc.bool, asBool]
  split at h
  · rename_i v v' h1 h2
    split at h <;> try (cases h; done)
    rename_i z hz
    have := castTo_some hz
    subst this
    have r1 := hR.ev x
    have r2 := hR.ev y
    rw [h1] at r1
    rw [h2] at r2
    refine fl_set hR hd h ?_ hrun
    cases b
    · exact r2
    · exact r1
  · cases b
    · exact fl_set hR hd h (hR.ev y) (by simpa using hrun)
    · exact fl_set hR hd h (hR.ev x) (by simpa using hrun)
 case build t parts =>
  simp only [exec, hop] at h
  split at h <;> try (cases h; done)
  rename_i i hi
  cases hp : i.ty.isProd
  · simp [hp] at h
  · simp only [hp, cond_true] at h
    split at h <;> try (cases h; done)
    rename_i v hv
    obtain ⟨mv, k1, k2⟩ := build_sound ht.data hR hi hp hv
    exact fl_set hR hd h k2 fun w2 => by simp [execOp, hop, k1]
 case load t x =>
  simp only [exec, hop] at h
  simp only [floats, hop] at hf
  split at h <;> try (cases h; done)
  rename_i k hk hh
  have hx := hR.ev x
  split at hf <;> try (cases hf; done)
  rename_i v hv
  rw [hv] at hx
  obtain ⟨ad, cs, h1, h2, h3, h4, h5, h6⟩ := hx
  cases k with
  | fn => simp only [loadV, hv] at h; cases h
  | data i =>
   simp only [loadV, hv] at h
   split at h <;> try (cases h; done)
   rename_i y hy
   have e := castTo_some hy
   subst e
   refine ⟨wrap i.ty cs, fun g2 w2 hl => ?_, _, g, hR.setD hd (v := .val ⟨i.ty, y⟩) ⟨cs, h6, rfl⟩, h⟩
   have hc2 : cellsAt w2 ad cs := cellsAt_of (by
    rcases h3 with h3 | h3
    · exact (hl.keep _ h4 h3).1
    · exact (hl.hid _ h4 h3).1) h5
   have := run_load_cells (P := P) ht.data (T := t) (i := i) (by simp [Tab.ti, hk]) hc2 h6.len
   simp [execOp, hop, h1, this]
 case nilCheck x =>
  simp only [exec, hop] at h
  have hx := hR.ev x
  split at h <;> try (cases h; done)
  · rename_i id p hv
    rw [hv] at hx
    have e := hx
    obtain ⟨ad, h1, h2⟩ := hx
    exact fl_set hR hd h e fun w2 => by simp [execOp, hop, h1]
  · rename_i v hv
    rw [hv] at hx
    have e := hx
    obtain ⟨ad, cs, h1, _⟩ := hx
    exact fl_set hR hd h e fun w2 => by simp [execOp, hop, h1]
  · rename_i A hv
    rw [hv] at hx
    have e := hx
    obtain ⟨ad, t, cs, h1, _⟩ := hx
    exact fl_set hR hd h e fun w2 => by simp [execOp, hop, h1]
  · rename_i f hv
    rw [hv] at hx
    have e : a.eval x = FnVal g f := hx
    exact fl_set hR hd h hx fun w2 => by simp [execOp, hop, e, FnVal]
 case binOp op t x y z =>
  simp only [exec, hop] at h
  obtain ⟨v, mv, k1, k2, k3⟩ := bin_sound (P := P) ht (xo := x) (yo := y) h (hR.ev x) (hR.ev y)
  exact fl_set hR hd k1 k3 fun w2 => by
   simp only [execOp, hop]
   rw [Sem.run_bind, k2]
   simp
 case unOp op t x =>
  simp only [exec, hop] at h
  obtain ⟨v, mv, k1, k2, k3⟩ := un_sound (P := P) h (hR.ev x)
  exact fl_set hR hd k1 k3 fun w2 => by simp [execOp, hop, k2]
 case convert src dst x =>
  simp only [exec, hop] at h
  split at h <;> try (cases h; done)
  rename_i i' hi'
  split at h <;> try (cases h; done)
  rename_i i v hi hv
  have hx := hR.ev x
  rw [hv] at hx
  obtain ⟨v', mv, k1, k2, k3⟩ := conv_sound ht.data hi hi' h hx
  exact fl_set hR hd k1 k3 fun w2 => by simp [execOp, hop, k2]
 case makeFunc fn first caps =>
  cases fn with
  | func f =>
   simp only [exec, hop] at h
   obtain ⟨hg, h⟩ := guardB_some h
   split at h <;> try (cases h; done)
   rename_i ids hids
   have e := capsOf_sound hR _ _ hids
   have hfirst : first = #[] := by
    apply Array.ext'
    cases hl : first.toList with
    | nil => rfl
    | cons x l => rw [hl] at hg; cases hg
   refine fl_set hR hd h (v := .fn ⟨f, ids⟩) (mv := FnVal g ⟨f, ids⟩) rfl fun w2 => ?_
   have : caps.map a.eval = (ids.map fun i => Value.pointer (some (g.base i))).toArray := by
    apply Array.ext'
    simpa using e
   simp [execOp, hop, Instr.makeFunc, hfirst, this, FnVal]
  | _ => simp only [exec, hop] at h; cases h
 case slice t x lo hi mx =>
  cases mx with
  | some _ => simp only [exec, hop] at h; cases h
  | none =>
   simp only [exec, hop] at h
   split at h <;> try (cases h; done)
   rename_i i hi'
   split at h <;> try (cases h; done)
   rename_i l u hl hu
   obtain ⟨v, mv, k1, k2, k3⟩ := slice_sound ht.data hR hi' (boundOf_sound hR hl) (boundOf_sound hR hu) h
   exact fl_set hR hd k1 k3 fun w2 => by simp [execOp, hop, k2]
 case fieldAddr t x j =>
  simp only [exec, hop] at h
  split at h <;> try (cases h; done)
  · rename_i i id p hi hv
    cases hb : noArr p && (!i.isArr && i.ty.isProd && decide (j < i.arity)) && decide (s.tyOf id p = some i.ty)
    · simp [hb] at h
    · simp only [hb, cond_true] at h
      simp only [Bool.and_eq_true, Bool.not_eq_true', decide_eq_true_eq] at hb
      obtain ⟨⟨b1, ⟨b2, b3⟩, b4⟩, b5⟩ := hb
      obtain ⟨mv, k1, k2⟩ := fieldAddr_sound ht.data hR hi b2 b3 b4 hv b1 b5
      exact fl_set hR hd h k2 fun w2 => by simp [execOp, hop, k1]
  · rename_i i v hi hv
    cases hb : (!i.isArr && i.ty.isProd && decide (j < i.arity)) && decide (v.t = i.ty)
    · simp [hb] at h
    · simp only [hb, cond_true] at h
      simp only [Bool.and_eq_true, Bool.not_eq_true', decide_eq_true_eq] at hb
      obtain ⟨⟨⟨b2, b3⟩, b4⟩, b5⟩ := hb
      split at h <;> try (cases h; done)
      rename_i u hu
      obtain ⟨mv, k1, k2⟩ := fieldAddrS_sound ht.data hR hi b2 b3 b4 hv b5 hu
      exact fl_set hR hd h k2 fun w2 => by simp [execOp, hop, k1]
  · rename_i i A hi hv
    cases hb : (!i.isArr && i.ty.isProd && decide (j < i.arity)) && s.fits i.ty A
    · simp [hb] at h
    · simp only [hb, cond_true] at h
      simp only [Bool.and_eq_true, Bool.not_eq_true', decide_eq_true_eq] at hb
      obtain ⟨⟨⟨b2, b3⟩, b4⟩, b5⟩ := hb
      obtain ⟨mv, k1, k2⟩ := fieldAddrT_sound ht.data hR hi b2 b3 b4 hv b5
      exact fl_set hR hd h k2 fun w2 => by simp [execOp, hop, k1]
 case field t x j =>
  simp only [exec, hop] at h
  split at h <;> try (cases h; done)
  rename_i i hi
  cases hb : (!i.isArr && i.ty.isProd && decide (j < i.arity)) && s.fits i.ty (s.ev x)
  · simp [hb] at h
  · simp only [hb, cond_true] at h
    simp only [Bool.and_eq_true, Bool.not_eq_true', decide_eq_true_eq] at hb
    obtain ⟨⟨⟨b2, b3⟩, b4⟩, b5⟩ := hb
    obtain ⟨mv, k1, k2⟩ := field_sound ht.data hR hi b2 b3 b4 b5
    exact fl_set hR hd h k2 fun w2 => by simp [execOp, hop, k1]
 case indexAddr t x j =>
  simp only [exec, hop] at h
  split at h <;> try (cases h; done)
  rename_i i n hi hn
  obtain ⟨k, hk⟩ : ∃ k, a.eval j = .int k n := by
   unfold intOf at hn
   split at hn <;> try (cases hn; done)
   rename_i k i' hv
   injection hn with hn
   subst hn
   have := hR.ev j
   rw [hv] at this
   exact ⟨k, this.int⟩
  obtain ⟨v, mv, k1, k2, k3⟩ := indexAddr_sound ht.data hR hi hk h
  exact fl_set hR hd k1 k3 fun w2 => by simp [execOp, hop, k2]
 case index t x j =>
  simp only [exec, hop] at h
  split at h <;> try (cases h; done)
  rename_i i n v hi hn hv
  obtain ⟨k, hk⟩ : ∃ k, a.eval j = .int k n := by
   unfold intOf at hn
   split at hn <;> try (cases hn; done)
   rename_i k i' hv
   injection hn with hn
   subst hn
   have := hR.ev j
   rw [hv] at this
   exact ⟨k, this.int⟩
  have hx := hR.ev x
  rw [hv] at hx
  obtain ⟨v', mv, k1, k2, k3⟩ := index_sound (k := k) ht.data hi h hx
  exact fl_set hR hd k1 k3 fun w2 => by simp [execOp, hop, hk, k2]
 case extract x j =>
  simp only [exec, hop] at h
  split at h <;> try (cases h; done)
  rename_i l hv
  split at h <;> try (cases h; done)
  rename_i v hnt hl
  have hx := hR.ev x
  rw [hv] at hx
  obtain ⟨mv, k1, k2⟩ := extract_sound (P := P) hx hl (fun l' e => hnt l' e)
  exact fl_set hR hd h k2 fun w2 => by simp [execOp, hop, k1]
def Old (w w' : World) : Prop := w.heap.size ≤ w'.heap.size ∧ ∀ b, b < w.heap.size → w'.heap[b]? = w.heap[b]?
theorem Old.refl (w : World) : Old w w := ⟨Nat.le_refl _, fun _ _ => rfl⟩
theorem Old.trans {w1 w2 w3 : World} (h : Old w1 w2) (k : Old w2 w3) : Old w1 w3 := ⟨Nat.le_trans h.1 k.1, fun b hb => (k.2 b (Nat.lt_of_lt_of_le hb h.1)).trans (h.2 b hb)⟩
theorem Old.cells {w w' : World} (h : Old w w') {ad : Addr} {cs : List Value} (hc : cellsAt w ad cs) : cellsAt w' ad cs := by
 cases cs with
 | nil => intro j hj; simp at hj
 | cons c cs =>
  have h0 := hc 0 (by simp)
  rw [add_zero] at h0
  have : ad.block < w.heap.size := by
   cases e : w.heap[ad.block]? with
   | some o => exact block_lt e
   | none => simp [World.cell?, e] at h0
  exact cellsAt_of (h.2 _ this) hc
theorem load_still (ht : TabOk' P cx.tab) (hR : R g0 w0 N s g a w) (hd : ∀ t, o.dst = some t → t < N) {t : TypeId} {x : Operand} (hop : o.op = .load t x) (h : exec cx o s K = some r) :
  ∃ mv, (∀ w', Old w w' → (execOp a.eval o).run P w' = .ok (.value mv) w') ∧ Next g0 w0 N K r (a.put o.dst mv) w := by
 simp only [exec, hop] at h
 split at h <;> try (cases h; done)
 rename_i k hk hh
 have hx := hR.ev x
 unfold loadV at h
 cases k with
 | data i =>
  have hi : cx.tab.ti t = some i := by simp [Tab.ti, hk]
  simp only at h
  split at h <;> try (cases h; done)
  · rename_i v hv
    rw [hv] at hx
    obtain ⟨ad, cs, h1, h2, h3, h4, h5, h6⟩ := hx
    split at h <;> try (cases h; done)
    rename_i y hy
    have e := castTo_some hy
    subst e
    refine ⟨wrap i.ty cs, fun w' hw => ?_, _, _, hR.setD hd (v := .val ⟨i.ty, y⟩) ⟨cs, h6, rfl⟩, h⟩
    have := run_load_cells (P := P) ht.data hi (hw.cells h5) h6.len
    simp [execOp, hop, h1, this]
  · rename_i A hv
    rw [hv] at hx
    obtain ⟨ad, u, cs, h1, h2, h3, h4, h5, h6⟩ := hx
    cases hf : s.fits i.ty A
    · rw [hf] at h; cases h
    · rw [hf] at h
      have h7 := fits_TC h6 hf
      refine ⟨wrap i.ty cs, fun w' hw => ?_, _, _, hR.setD hd (v := A) h7.rep, h⟩
      have := run_load_cells (P := P) ht.data hi (hw.cells h5) h7.len
      simp [execOp, hop, h1, this]
  · rename_i id p hv
    rw [hv] at hx
    obtain ⟨ad, h1, h2⟩ := hx
    split at h <;> try (cases h; done)
    rename_i m v hat
    split at h <;> try (cases h; done)
    rename_i y hy
    have e := castTo_some hy
    subst e
    obtain ⟨r1, r2, _, ds, r3, r4, r5⟩ := hR.place hh hat h2
    refine ⟨wrap i.ty ds, fun w' hw => ?_, _, _, hR.setD hd (view_sound _ _ _ _ _ r5 (fun sg hs _ => ⟨ad, h2 sg hs⟩) r4).rep, h⟩
    have := run_load_cells (P := P) ht.data hi (hw.cells r3) r4.len
    simp [execOp, hop, h1, this]
 | fn =>
  simp only at h
  obtain ⟨ps, rs, vr, hu⟩ := (ht.fn t hk).kind
  have key : ∀ (id : Id) (f : Option FnV) (ad : Addr), a.eval x = .pointer (some ad) → (∀ sg, s.sig id = some sg → AddrRoot g id sg [] ad) → s.obj id = some (.fbox f) → ∀ w', Old w w' → (execOp a.eval o).run P w' = .ok (.value (match f with
   | some f => .func (.func f.f) #[] ((f.caps.map fun i => Value.pointer (some (g.base i))).toArray)
   | none => .nilFunc)) w' := by
   intro id f ad h1 h2 ho w' hw
   have hob := hR.objs id _ ho
   obtain ⟨_, _, ⟨c, e, hb⟩, hc⟩ := hob
   have h3 := h2 _ (by simp [St.sig, ho]; rfl)
   simp only [Ob.sig, AddrRoot] at h3
   have hc' : w'.cell? (g.base id) = w.cell? (g.base id) := World.cell?_of_block (w := w) (hw.2 _ (block_lt hb))
   rw [hc] at hc'
   simp only [execOp, hop, h1, h3.2]
   cases f <;> simp [Instr.loadAt, Instr.sureAddr, loadVar, isAgg, run_underlying hu, hc']
  split at h <;> try (cases h; done)
  rename_i id hv
  rw [hv] at hx
  obtain ⟨ad, h1, h2⟩ := hx
  split at h <;> try (cases h; done)
  · rename_i f ho
    exact ⟨_, key id _ ad h1 h2 ho, _, _, hR.setD hd (v := .fn f) rfl, h⟩
  · rename_i ho
    exact ⟨_, key id _ ad h1 h2 ho, _, _, hR.setD hd (v := .nilfn) rfl, h⟩
def allocKind (o : Oper) : Bool := match o.op with
 | .alloc _ | .box .. | .buildSlice .. | .makeSlice .. => true
 | _ => false
theorem alloc_calm (ht : TabOk' P cx.tab) (hR : R g0 w0 N s g a w) (hd : ∀ t, o.dst = some t → t < N) (hk : allocKind o = true) (h : exec cx o s K = some r) :
  ∃ mv w', (execOp a.eval o).run P w = .ok (.value mv) w' ∧ Old w w' ∧ Next g0 w0 N K r (a.put o.dst mv) w' := by
 have grow : ∀ {w' : World}, (∀ b, b < w.heap.size → w'.heap[b]? = w.heap[b]?) → Old w w' := fun {w'} hb => by
  refine ⟨?_, hb⟩
  cases hn : w.heap.size with
  | zero => omega
  | succ n =>
   have := hb n (by omega)
   have hlt : n < w.heap.size := by omega
   rw [Array.getElem?_eq_getElem hlt] at this
   have := block_lt this
   omega
 cases hop : o.op <;> first | (simp [allocKind, hop] at hk; done) | skip
 case alloc t =>
  simp only [exec, hop] at h
  split at h <;> try (cases h; done)
  · rename_i d i hdst hi
    cases hf : s.free (d, 0)
    · simp [hf] at h
    · simp only [hf, cond_true] at h
      obtain ⟨w', g', mv, k1, k2, k3⟩ := alloc_sound ht.data hR (hd d hdst) hf (T := t) (i := i) (by simp [Tab.ti, hi])
      exact ⟨mv, w', by simp [execOp, hop, k1], grow k3, _, g', by rw [hdst]; exact k2, h⟩
  · rename_i d hdst hi
    cases hf : s.free (d, 0)
    · simp [hf] at h
    · simp only [hf, cond_true] at h
      obtain ⟨w', g', mv, k1, k2, k3⟩ := allocFn_sound hR (hd d hdst) hf (ht.fn t hi)
      exact ⟨mv, w', by simp [execOp, hop, k1], grow k3, _, g', by rw [hdst]; exact k2, h⟩
 case box t x =>
  simp only [exec, hop] at h
  split at h <;> try (cases h; done)
  · rename_i d i hdst hi
    cases hkp : cx.keep d
    rotate_left
    · simp only [hkp, cond_true] at h
      cases hf : (s.fits i.ty (s.ev x) && s.shown (s.ev x))
      · simp [hf] at h
      · simp only [hf, cond_true] at h
        simp only [Bool.and_eq_true] at hf
        obtain ⟨w', mv, k1, k2, k3⟩ := boxT_sound ht.data hR (hd d hdst) (T := t) (i := i) (by simp [Tab.ti, hi]) hf.1 hf.2
        exact ⟨mv, w', by simp [execOp, hop, k1], grow k3, _, g, by rw [hdst]; exact k2, h⟩
    simp only [hkp, cond_false] at h
    split at h <;> try (cases h; done)
    rename_i m v s1 htk
    split at h <;> try (cases h; done)
    rename_i y hy
    have := castTo_some hy
    subst this
    cases hf : s1.free (d, 0)
    · simp [hf] at h
    · simp only [hf, cond_true] at h
      obtain ⟨w', g', mv, k1, k2, k3⟩ := box_sound ht.data hR (hd d hdst) (T := t) (i := i) (by simp [Tab.ti, hi]) htk hf
      exact ⟨mv, w', by simp [execOp, hop, k1], grow k3, _, g', by rw [hdst]; exact k2, h⟩
  · rename_i d hdst hi
    split at h <;> try (cases h; done)
    rename_i f hv
    cases hf : s.free (d, 0) && !f.caps.any (sameId (d, 0))
    · simp [hf] at h
    · simp only [hf, cond_true] at h
      simp only [Bool.and_eq_true, Bool.not_eq_true'] at hf
      obtain ⟨w', g', mv, k1, k2, k3⟩ := boxFn_sound (P := P) (T := t) hR (hd d hdst) hf.1 hv (fun hm => by
       have := List.any_eq_false.1 hf.2 _ hm
       exact this (sameId_eq.2 rfl))
      exact ⟨mv, w', by simp [execOp, hop, k1], grow k3, _, g', by rw [hdst]; exact k2, h⟩
 case buildSlice t n parts =>
  simp only [exec, hop] at h
  split at h <;> try (cases h; done)
  rename_i d i hdst hi
  split at h <;> try (cases h; done)
  rename_i e hty
  obtain ⟨hg, h⟩ := guardB_some h
  simp only [Bool.and_eq_true, decide_eq_true_eq] at hg
  split at h <;> try (cases h; done)
  rename_i mm xs s1 htk
  cases hf : s1.free (d, 0)
  · simp [hf] at h
  · simp only [hf, cond_true] at h
    obtain ⟨w', g', mv, k1, k2, k3⟩ := buildSlice_sound ht.data hR (hd d hdst) hi hty (Nat.eq_of_beq_eq_true hg.1.1) hg.1.2 htk hf hg.2 (bif cx.keep d then .shr else e.full)
    exact ⟨mv, w', by simp [execOp, hop, k1], grow k3, _, g', by rw [hdst]; exact k2, h⟩
 case makeSlice t l c =>
  simp only [exec, hop] at h
  split at h <;> try (cases h; done)
  rename_i d i hdst hi
  split at h <;> try (cases h; done)
  rename_i e k n k' m hty hl hc
  obtain ⟨hg, h⟩ := guardB_some h
  simp only [Bool.and_eq_true, decide_eq_true_eq] at hg
  cases hf : s.free (d, 0)
  · simp [hf] at h
  · simp only [hf, cond_true] at h
    have h1 := hR.ev l
    have h2 := hR.ev c
    rw [hl] at h1
    rw [hc] at h2
    obtain ⟨w', g', mv, k1, k2, k3⟩ := makeSlice_sound (k := k) (k' := k') ht.data hR (hd d hdst) hf hi hty hg.1.1 hg.1.2 hg.2
    exact ⟨mv, w', by simp [execOp, hop, h1.int, h2.int, k1], grow k3, _, g', by rw [hdst]; exact k2, h⟩
theorem still_sound (ht : TabOk' P cx.tab) (hR : R g0 w0 N s g a w) (hd : ∀ t, o.dst = some t → t < N) (hf : stillKind o = true) (h : exec cx o s K = some r) :
  ∃ mv, (∀ w', Old w w' → (∃ g', Le g w g' w') → (execOp a.eval o).run P w' = .ok (.value mv) w') ∧ Next g0 w0 N K r (a.put o.dst mv) w := by
 cases hop : o.op with
 | load t x =>
  obtain ⟨mv, k1, k2⟩ := load_still ht hR hd hop h
  exact ⟨mv, fun w' hw _ => k1 w' hw, k2⟩
 | _ =>
  have : floats s o = true := by
   simp only [stillKind, hop] at hf
   first
    | (simp only [floats, hop]; done)
    | (simp only [floats, hop]; exact hf)
  obtain ⟨mv, k1, k2⟩ := floats_sound ht hR hd this h
  exact ⟨mv, fun w' _ ⟨g', hl⟩ => k1 g' w' hl, k2⟩
end
end Go.Ve
namespace Go.Ve
open Go Go.RowKit
def _root_.Go.Ve.Gh.sealO (g : Gh) (id : Id) : Gh := { g with own := fun b => match g.own b with
 | some (some i, r) => if i = id then none else some (some i, r)
 | o => o }
section
variable {P : Program} {g0 : Gh} {w0 : Fra} {N : Nat} {s : St} {g : Gh} {a : Act} {w : World}
theorem seal_le {id : Id} : Le g w (g.sealO id) w := ⟨rfl, rfl, rfl, Nat.le_refl _, fun b _ h => ⟨rfl, by simp [Gh.sealO, h]⟩, fun b _ h => ⟨rfl, by simp [Gh.sealO, h]⟩⟩
theorem seal_same {id i : Id} (h : i ≠ id) : Same g w (g.sealO id) w (some i) := ⟨fun _ => rfl, fun _ _ => rfl, fun b r e => ⟨rfl, by simp [Gh.sealO, e, h]⟩⟩
theorem seal_lives {id : Id} (h : ∀ b o, g.own b = some o → b < w.heap.size) : ∀ b o, (g.sealO id).own b = some o → b < w.heap.size := by
 intro b o e
 cases k : g.own b with
 | none => simp [Gh.sealO, k] at e
 | some o' => exact h b o' k
theorem R.sealO (h : R g0 w0 N s g a w) (id : Id) : ∃ g', R g0 w0 N (s.sealO id) g' a w := by
 unfold St.sealO
 split
 · rename_i m v ho
   cases hf : s.free id
   · exact ⟨g, h⟩
   · simp only [cond_true]
     have hob := h.objs id _ ho
     obtain ⟨cs, c, e, h1, h2, h3, h4, h5⟩ := hob
     have hS : SRep (g.sealO id) w v.t v.x cs := ORep.free seal_le _ _ _ _ _ ⟨fun b q e => ⟨rfl, by simp [Gh.sealO, e]⟩, fun q => hl_ne hf _⟩ h5
     have hobj : ∀ i, updI s.obj id none i = if i = id then none else s.obj i := fun i => by
      by_cases hi : i = id
      · subst hi; rw [updI_same, if_pos rfl]
      · rw [updI_ne _ _ hi, if_neg hi]
     have hsg : ∀ i, i ≠ id → ∀ x, (Option.map Ob.sig (updI s.obj id none i)) = some x → s.sig i = some x := fun i hi x e => by
      rw [hobj, if_neg hi] at e; exact e
     have keep : ∀ (A : TV) (mv : Value), A.looks false id = false → TRep g w s.sig A mv → TRep (g.sealO id) w (fun i => Option.map Ob.sig (updI s.obj id none i)) A mv := fun A mv hA k =>
      TRep.le seal_le _ _ (fun i hi => ⟨fun _ => rfl, rfl, fun x e => hsg i (fun e' => by subst e'; rw [hA] at hi; cases hi) x e⟩) k
     refine ⟨g.sealO id, {
      frame := h.frame.trans seal_le
      tmps := fun u => ?_
      objs := fun i o e => by
       have e : updI s.obj id none i = some o := e
       rw [hobj] at e
       by_cases hi : i = id
       · rw [if_pos hi] at e; cases e
       · rw [if_neg hi] at e
         exact RootRep.same seal_le (seal_same hi) (fun _ => Iff.rfl) o (fun _ _ _ _ => rfl) (h.objs i o e)
      lives := seal_lives h.lives
      defers := h.defers
      size := h.size
      small := h.small
      ext := fun i o e hi => by
       have e : updI s.obj id none i = some o := e
       rw [hobj] at e
       by_cases hi' : i = id
       · rw [if_pos hi'] at e; cases e
       · rw [if_neg hi'] at e
         exact h.ext i o e hi }⟩
     show TRep (g.sealO id) w (fun i => Option.map Ob.sig (updI s.obj id none i)) (sealTV id v (s.tmp u)) _
     have ht := h.tmps u
     have dflt : ∀ A : TV, TRep g w s.sig A (a.tmps.getD u undef) → TRep (g.sealO id) w (fun i => Option.map Ob.sig (updI s.obj id none i)) (bif A.looks false id then .dead else A) (a.tmps.getD u undef) := by
      intro A hA
      cases hl : A.looks false id
      · exact keep A _ hl hA
      · trivial
     cases hu : s.tmp u <;> rw [hu] at ht <;> try exact dflt _ ht
     rename_i i p
     cases p with
     | cons x p => exact dflt _ ht
     | nil =>
      simp only [sealTV]
      cases hs : sameId i id
      · refine keep _ _ ?_ ht
        simp [TV.looks, hs]
      · have e := sameId_eq.1 hs
        subst e
        obtain ⟨ad, q1, q2⟩ := ht
        have q3 := q2 (.box v.t) (by simp [St.sig, ho, Ob.sig])
        simp only [AddrRoot, AddrOf] at q3
        subst q3
        exact ⟨_, cs, q1, h1, .inl (by simp [Gh.sealO, h2]), block_lt h3, h4, hS⟩
 · exact ⟨g, h⟩
theorem R.sealAll : ∀ (l : List Id) {s : St} {g : Gh}, R g0 w0 N s g a w → ∃ g', R g0 w0 N (sealIds l s) g' a w
 | [], s, g, h => ⟨g, h⟩
 | id :: l, s, g, h => by
  obtain ⟨g', k⟩ := h.sealO id
  exact R.sealAll l k
theorem R.freezeHere (l : List Id) (h : R g0 w0 N s g a w) : ∃ g', R g0 w0 N (freezeHere l s) g' a w := by
 unfold Go.Ve.freezeHere
 split
 · rename_i hh
   exact ⟨_, (R.freezes l h hh).1⟩
 · exact ⟨g, h⟩
end
end Go.Ve
namespace Go.Ve
open Go Go.RowKit
abbrev Obl := List ((World → Prop) × (Nat → Bool))
section
variable {P : Program} {ops : Array Oper} {Q : Exit → Act → World → Prop} {md : Region.Mode}
def wpAnyG (P : Program) (md : Region.Mode) (ops : Array Oper) (Q : Exit → Act → World → Prop) : Nat → Obl → Array Bool → Act → World → Prop
 | 0, _, listed, a, w => Region.ready md ops listed = [] ∧ Q .normal a w
 | fuel + 1, T, listed, a, w =>
  (Region.ready md ops listed = [] → Q .normal a w) ∧
  ∀ i ∈ Region.ready md ops listed, wpOp P ops Q i (fun a' w' => (∀ t ∈ T, t.2 i = true → t.1 w') ∧ wpAnyG P md ops Q fuel (T.filter fun t => t.2 i) (listed.setIfInBounds i true) a' w') a w
theorem wpAny_of_G : ∀ (fuel : Nat) (T : Obl) (listed : Array Bool) (a : Act) (w : World), wpAnyG P md ops Q fuel T listed a w → wpAny P md ops Q fuel listed a w
 | 0, _, _, _, _, h => h
 | fuel + 1, _, _, _, _, h => ⟨h.1, fun i hi => wpOp_mono (fun a' w' h' => wpAny_of_G fuel _ _ a' w' h'.2) (h.2 i hi)⟩
theorem wpAnyG_mono : ∀ (fuel : Nat) (T T' : Obl) (listed : Array Bool) (a : Act) (w : World), (∀ t ∈ T', t ∈ T) → wpAnyG P md ops Q fuel T listed a w → wpAnyG P md ops Q fuel T' listed a w
 | 0, _, _, _, _, _, _, h => h
 | fuel + 1, T, T', _, _, _, ht, h => ⟨h.1, fun i hi => wpOp_mono (fun a' w' h' => ⟨fun t h1 => h'.1 t (ht t h1), wpAnyG_mono fuel _ _ _ a' w' (fun t h1 => by
  rw [List.mem_filter] at h1 ⊢
  exact ⟨ht t h1.1, h1.2⟩) h'.2⟩) (h.2 i hi)⟩
theorem wpAnyG_first {i : Nat} {oi : Oper} {v : Value} {S : World → Prop} {C : Nat → Bool} (hi : ops[i]? = some oi) (hsel : ∀ (j : Nat) (o : Oper) cs b, ops[j]? = some o → o.op ≠ .select cs b)
  (hQ : ∀ c a w, Q (.panic c) (a.put oi.dst v) w → Q (.panic c) a w) :
  ∀ (fuel : Nat) (T : Obl) (listed : Array Bool) (a : Act) (w : World),
   (∀ j oj, ops[j]? = some oj → j ≠ i → listed.getD j true = false → (∀ e ∈ oj.after, Region.binds md e = true → e.on ≠ i) → oi.apart ops oj = true) →
   (∀ j oj, ops[j]? = some oj → j ≠ i → listed.getD j true = false → C j = false → ∃ e ∈ oj.after, Region.binds md e = true ∧ (e.on = i ∨ (C e.on = false ∧ listed.getD e.on false = false))) →
   i ∈ Region.ready md ops listed → YieldsIf P ops S oi v a → S w → (∀ t ∈ T, t.2 i = true → t.1 w) →
   wpAnyG P md ops Q fuel ((S, C) :: T) (listed.setIfInBounds i true) (a.put oi.dst v) w → wpAnyG P md ops Q (fuel + 1) T listed a w := by
 intro fuel
 induction fuel with
 | zero =>
  intro T listed a w _ _ hr hy hS hT H
  refine ⟨fun h => (by rw [h] at hr; cases hr), fun j hj => ?_⟩
  by_cases hji : j = i
  · subst hji; exact hy.wpOp hi hS ⟨hT, H⟩
  · have := ready_mono hj hji
    rw [H.1] at this
    cases this
 | succ fuel ih =>
  intro T listed a w hfree hcl hr hy hS hT H
  refine ⟨fun h => (by rw [h] at hr; cases hr), fun j hj => ?_⟩
  by_cases hji : j = i
  · subst hji
    exact hy.wpOp hi hS ⟨hT, wpAnyG_mono _ _ _ _ _ _ (fun t h => by
     rw [List.mem_filter] at h
     exact List.mem_cons_of_mem _ h.1) H⟩
  · have h1 := H.2 j (ready_mono hj hji)
    obtain ⟨hjun, oj, hoj, hall⟩ := mem_ready.1 hj
    have hnl : listed.getD i true = false := (mem_ready.1 hr).1
    have hnl' : listed.getD i false = false := by
     rcases Nat.lt_or_ge i listed.size with h' | h'
     · simp [h'] at hnl ⊢; exact hnl
     · simp [Array.getElem?_eq_none h']
    have hnot : ∀ e ∈ oj.after, Region.binds md e = true → e.on ≠ i := fun e he hb heq => by
     have h1 := hall e he hb
     rw [heq, hnl'] at h1
     cases h1
    have hCj : C j = true := by
     cases hc : C j
     · obtain ⟨e, he, hb, h⟩ := hcl j oj hoj hji hjun hc
       rcases h with h | ⟨_, h⟩
       · exact absurd h (hnot e he hb)
       · rw [hall e he hb] at h; cases h
     · rfl
    have h2 := wpOp_putIf hoj (hfree j oj hoj hji hjun hnot) (fun cs b => hsel i oi cs b hi) (fun cs b => hsel j oj cs b hoj) hQ hy h1
    have hback : ∀ k, (listed.setIfInBounds j true).getD k true = false → listed.getD k true = false := fun k hun => by
     by_cases hjk : j = k
     · subst hjk; exact hjun
     · rw [getD_set_ne true hjk] at hun; exact hun
    refine wpOp_mono (fun a' w' h3 => ?_) h2
    obtain ⟨h3, h4, h5⟩ := h3
    refine ⟨fun t ht => h4 t (List.mem_cons_of_mem _ ht), ?_⟩
    refine ih _ (listed.setIfInBounds j true) a' w' (fun k ok hk hki hun hno => hfree k ok hk hki (hback k hun) hno) (fun k ok hk hki hun hc => ?_) (ready_mono hr (Ne.symm hji)) h3 (h4 (S, C) (by simp) hCj) (fun t ht htj => ?_) ?_
    · obtain ⟨e, he, hb, h⟩ := hcl k ok hk hki (hback k hun) hc
      refine ⟨e, he, hb, h.imp id fun ⟨q1, q2⟩ => ⟨q1, ?_⟩⟩
      rw [getD_set_ne false (fun e => by rw [← e, hCj] at q1; cases q1)]
      exact q2
    · rw [List.mem_filter] at ht
      exact h4 t (List.mem_cons_of_mem _ ht.1) ht.2
    · rw [Array.setIfInBounds_comm _ _ hji]
      have : (((S, C) :: T).filter fun t => t.2 j) = (S, C) :: T.filter fun t => t.2 j := by simp [hCj]
      rw [this] at h5
      exact h5
theorem wpAnyG_done {T : Obl} {listed : Array Bool} {a : Act} {w : World} (hr : Region.ready md ops listed = []) (h : Q .normal a w) :
  ∀ fuel, wpAnyG P md ops Q fuel T listed a w
 | 0 => ⟨hr, h⟩
 | _ + 1 => ⟨fun _ => h, by rw [hr]; simp⟩
end
def waitsL (i : Nat) : List (Oper × Nat) → List Nat → List Nat
 | [], acc => acc
 | (o, j) :: l, acc => waitsL i l (bif o.after.any (fun e => Region.binds .any e && (Nat.beq e.on i || acc.any (Nat.beq e.on))) then j :: acc else acc)
def waits (ops : Array Oper) (i : Nat) : List Nat := waitsL i ops.toList.zipIdx []
def calmKind (o : Oper) : Bool := stillKind o || allocKind o
def isLoad (o : Oper) : Bool := match o.op with
 | .load .. => true
 | _ => false
def quietOk (ops : Array Oper) (i : Nat) (listed : Array Bool) : Bool :=
 (waits ops i).all (fun j => !listed.getD j false) &&
 (List.range ops.size).all fun j => listed.getD j true || Nat.beq j i || (waits ops i).any (Nat.beq j) || match ops[j]? with
  | some o => calmKind o
  | none => true
def drawStep (ops : Array Oper) (i : Nat) (f : Fl) (listed : Array Bool) : Bool := match f with
 | .flo => (Region.ready .any ops listed).contains i && Region.free .any ops listed i
 | .qui => (Region.ready .any ops listed).contains i && Region.free .any ops listed i && quietOk ops i listed && match ops[i]? with
  | some o => isLoad o
  | none => false
 | .sole => Region.ready .any ops listed == [i]
def drawTo (ops : Array Oper) : List (Nat × Fl) → Array Bool → Option (Array Bool)
 | [], listed => some listed
 | (i, f) :: l, listed => bif drawStep ops i f listed then drawTo ops l (listed.setIfInBounds i true) else none
def drawOk0 (ops : Array Oper) (l : List (Nat × Fl)) : Bool := Region.noSelect ops && Nat.ble l.length ops.size && match drawTo ops l (Array.replicate ops.size false) with
 | some d => (Region.ready .any ops d).isEmpty
 | none => false
def heads {out : Tpl} : DT out → List Nat
 | .br ((i, _) :: _) _ rest => i :: heads rest
 | _ => []
def listedOk (d : Array Bool) (i : Nat) : Prop := d.getD i true = false
def dtLen {out : Tpl} : DT out → Nat
 | .fin => 0
 | .node _ _ b => dtLen b
 | .br l t rest => max (l.length + dtLen t) (dtLen rest)
 | .nobr => 0
def dtB (ops : Array Oper) {out : Tpl} : DT out → Array Bool → Bool
 | .fin, d => out.ok && (Region.ready .any ops d).isEmpty
 | .node J _ b, d => J.ok && !(heads b).isEmpty && Region.ready .any ops d == heads b && dtB ops b d
 | .br l t rest, d => (match l with
  | (i, _) :: l => match drawTo ops l (d.setIfInBounds i true) with
   | some d' => dtB ops t d'
   | none => false
  | [] => false) && dtB ops rest d
 | .nobr, _ => true
def drawsOk0 (ops : Array Oper) (l : List (Nat × Fl)) {out : Tpl} (t : DT out) : Bool := Region.noSelect ops && Nat.ble (l.length + dtLen t) ops.size && match drawTo ops l (Array.replicate ops.size false) with
 | some d => dtB ops t d
 | none => false
def dtR (cx : Cx) (ops : Array Oper) {out : Tpl} : DT out → (J : Tpl) → (J.P → Option out.P) → Prop → Prop
 | .fin, _, _, k => k
 | .node J D b, _, _, k => dtR cx ops b J D k
 | .br l t rest, J, D, k => (∀ p, runDrawn cx ops l (J.S p) (endT cx t) = D p) ∧ dtR cx ops t J D (dtR cx ops rest J D k)
 | .nobr, _, _, k => k
theorem dtR_rest {cx : Cx} {ops : Array Oper} {out : Tpl} : ∀ (t : DT out) (J : Tpl) (D : J.P → Option out.P) (k : Prop), dtR cx ops t J D k → k
 | .fin, _, _, _, h => h
 | .node J D b, _, _, k, h => dtR_rest b J D k h
 | .br l t rest, J, D, k, h => dtR_rest rest J D k (dtR_rest t J D _ h.2)
 | .nobr, _, _, _, h => h
theorem anyBeq {l : List Nat} {j : Nat} : l.any (Nat.beq j) = true ↔ j ∈ l := by
 simp only [List.any_eq_true]
 constructor
 · rintro ⟨x, h1, h2⟩; rw [Nat.eq_of_beq_eq_true h2]; exact h1
 · intro h; exact ⟨j, h, Nat.beq_refl j⟩
theorem waitsL_spec {ops : Array Oper} {i : Nat} : ∀ (l : List (Oper × Nat)) (acc : List Nat), (∀ x ∈ l, ops[x.2]? = some x.1) →
  (∀ j ∈ acc, ∃ o, ops[j]? = some o ∧ ∃ e ∈ o.after, Region.binds .any e = true ∧ (e.on = i ∨ e.on ∈ acc)) →
  (∀ j ∈ acc, j ∈ waitsL i l acc) ∧ ∀ j ∈ waitsL i l acc, ∃ o, ops[j]? = some o ∧ ∃ e ∈ o.after, Region.binds .any e = true ∧ (e.on = i ∨ e.on ∈ waitsL i l acc)
 | [], acc, hl, h => ⟨fun _ h => h, h⟩
 | (o, j) :: l, acc, hl, h => by
  simp only [waitsL]
  cases hc : o.after.any fun e => Region.binds .any e && (Nat.beq e.on i || acc.any (Nat.beq e.on))
  · exact waitsL_spec l acc (fun x hx => hl x (by simp [hx])) h
  · obtain ⟨e, he, hb⟩ := Array.any_eq_true'.1 hc
    simp only [Bool.and_eq_true, Bool.or_eq_true] at hb
    have := waitsL_spec l (j :: acc) (fun x hx => hl x (by simp [hx])) (fun k hk => by
     rcases List.mem_cons.1 hk with rfl | hk
     · exact ⟨o, hl (o, k) (by simp), e, he, hb.1, hb.2.imp Nat.eq_of_beq_eq_true (fun h => List.mem_cons_of_mem _ (anyBeq.1 h))⟩
     · obtain ⟨o', h1, e', h2, h3, h4⟩ := h k hk
       exact ⟨o', h1, e', h2, h3, h4.imp id (List.mem_cons_of_mem _)⟩)
    exact ⟨fun k hk => this.1 k (List.mem_cons_of_mem _ hk), this.2⟩
theorem waits_spec {ops : Array Oper} {i j : Nat} (h : j ∈ waits ops i) : ∃ o, ops[j]? = some o ∧ ∃ e ∈ o.after, Region.binds .any e = true ∧ (e.on = i ∨ e.on ∈ waits ops i) :=
 (waitsL_spec ops.toList.zipIdx [] (fun x hx => by
  obtain ⟨o, k⟩ := x
  have := List.mem_zipIdx_iff_getElem?.1 hx
  simpa using this) (fun _ h => by cases h)).2 j h
section
variable {P : Program} {g0 : Gh} {w0 : Fra} {N : Nat} {s : St} {g : Gh} {a : Act} {w : World} {α : Type} {r : α} {cx : Cx} {ops : Array Oper} {Q : Exit → Act → World → Prop}
def Met (ops : Array Oper) (T : Obl) (listed : Array Bool) (g : Gh) (w : World) : Prop :=
 ∀ t ∈ T, (∃ g1 w1, Le g1 w1 g w ∧ ∀ w', (∃ g', Le g1 w1 g' w') → t.1 w') ∨ (t.1 w ∧ (∀ w1 w2, t.1 w1 → Old w1 w2 → t.1 w2) ∧ ∀ j o, t.2 j = true → listed.getD j true = false → ops[j]? = some o → calmKind o = true)
theorem Met.now {T : Obl} {listed : Array Bool} (h : Met ops T listed g w) : ∀ t ∈ T, t.1 w := fun t ht => by
 rcases h t ht with ⟨g1, w1, h1, h2⟩ | ⟨h1, _⟩
 · exact h2 w ⟨g, h1⟩
 · exact h1
theorem listed_back {listed : Array Bool} {i j : Nat} (h : (listed.setIfInBounds i true).getD j true = false) : listed.getD j true = false := by
 by_cases hij : i = j
 · subst hij
   rcases Nat.lt_or_ge i listed.size with h' | h'
   · simp [h'] at h
   · simp [Array.getElem?_eq_none h', h'] at h
 · rw [getD_set_ne true hij] at h; exact h
theorem Met.calm {T : Obl} {listed : Array Bool} (h : Met ops T listed g w) {g' : Gh} (hl : Le g w g' w) (i : Nat) : Met ops T (listed.setIfInBounds i true) g' w := fun t ht => by
 rcases h t ht with ⟨g1, w1, h1, h2⟩ | ⟨h1, h3, h2⟩
 · exact .inl ⟨g1, w1, h1.trans hl, h2⟩
 · exact .inr ⟨h1, h3, fun j o hj hun ho => h2 j o hj (listed_back hun) ho⟩
theorem R.based (h : R g0 w0 N s g a w) : R g0 (w0.and g w) N s g a w := { h with frame := ⟨h.frame, Le.refl _ _⟩ }
theorem R.unbased {g1 : Gh} {w1 : World} (h : R g0 (w0.and g1 w1) N s g a w) : R g0 w0 N s g a w ∧ Le g1 w1 g w := ⟨{ h with frame := h.frame.1 }, h.frame.2⟩
theorem guardedBy_mono {E E' : St → (St → Option α) → Option α} {o : Oper} {K : St → Option α} (hE : ∀ s K, E s K = some r → E' s K = some r) (h : guardedBy E ops o s K = some r) : guardedBy E' ops o s K = some r := by
 unfold guardedBy at h ⊢
 cases hg : o.guard with
 | none => rw [hg] at h; exact hE _ _ h
 | some x =>
  obtain ⟨gi, want⟩ := x
  rw [hg] at h
  simp only at h ⊢
  cases hog : ops[gi]? with
  | none => rw [hog] at h; cases h
  | some og =>
   rw [hog] at h
   simp only at h ⊢
   cases ht : og.dst with
   | none => rw [ht] at h; cases h
   | some t =>
    rw [ht] at h
    simp only at h ⊢
    split at h <;> try (cases h; done)
    · rename_i b hb
      cases b <;> cases want <;> first | exact h | exact hE _ _ h
    · exact h
theorem sole_step (ht : TabOk' P cx.tab) (henv : EnvOk P cx.env) {K : St → Option α} {i : Nat} {o : Oper} {f : Fl} (hf : f ≠ .flo) (ho : ops[i]? = some o) (hdo : ∀ t, o.dst = some t → t < N) {T : Obl} {listed : Array Bool} (hR : R g0 w0 N s g a w) (hm : Met ops T listed g w) (hun : listed.getD i true = false)
  (h : guardedBy (execF cx o f) ops o s K = some r) {Z : Obl → Act → World → Prop} (hZ : ∀ T' s' g' a' w', R g0 w0 N s' g' a' w' → K s' = some r → Met ops T' (listed.setIfInBounds i true) g' w' → Z T' a' w') :
  wpOp P ops Q i (fun a' w' => (∀ t ∈ T, t.2 i = true → t.1 w') ∧ Z (T.filter fun t => t.2 i) a' w') a w := by
 unfold wpOp
 simp only [ho]
 have hc := guard_cases hR h
 have next : ∀ a' w', (∃ s' g', R g0 (w0.and g w) N s' g' a' w' ∧ K s' = some r) → (Old w w' ∨ calmKind o = false) →
  (∀ t ∈ T, t.2 i = true → t.1 w') ∧ Z (T.filter fun t => t.2 i) a' w' := by
  rintro a' w' ⟨s', g', k1, k2⟩ hww
  have hl := k1.unbased.2
  have hm' : ∀ t ∈ T, t.2 i = true → (∃ g1 w1, Le g1 w1 g' w' ∧ ∀ w', (∃ g', Le g1 w1 g' w') → t.1 w') ∨ (t.1 w' ∧ (∀ w1 w2, t.1 w1 → Old w1 w2 → t.1 w2) ∧ ∀ k o, t.2 k = true → (listed.setIfInBounds i true).getD k true = false → ops[k]? = some o → calmKind o = true) := by
   intro t htm htj
   rcases hm t htm with ⟨g1, w1, h1, h2⟩ | ⟨h1, h3, h2⟩
   · exact .inl ⟨g1, w1, h1.trans hl, h2⟩
   · rcases hww with hww | hww
     · exact .inr ⟨h3 _ _ h1 hww, h3, fun k o hk hun ho => h2 k o hk (listed_back hun) ho⟩
     · rw [h2 i o htj hun ho] at hww
       cases hww
  refine ⟨fun t htm htj => ?_, hZ _ s' g' a' w' k1.unbased.1 k2 (fun t htm => ?_)⟩
  · rcases hm' t htm htj with ⟨g1, w1, h1, h2⟩ | ⟨h1, _⟩
    · exact h2 _ ⟨_, h1⟩
    · exact h1
  · rw [List.mem_filter] at htm
    exact hm' t htm.1 htm.2
 rcases hc with ⟨hw, he⟩ | ⟨hw, he⟩
 · rw [if_pos hw]
   have he : exec cx o s K = some r := by
    cases f with
    | flo => exact absurd rfl hf
    | qui => exact he
    | sole => exact he
   refine .inl ?_
   cases hst : stillKind o
   · cases hal : allocKind o
     · exact wp_next (fun a' w' k => next a' w' k (.inr (by simp [calmKind, hst, hal]))) (exec_sound ht (callM_sound ht henv) hR.based hdo he)
     · obtain ⟨mv, w', k1, k2, k3⟩ := alloc_calm ht hR.based hdo hal he
       exact wp_val k1 (next _ _ k3 (.inl k2))
   · obtain ⟨mv, k1, k2⟩ := still_sound ht hR.based hdo hst he
     exact wp_val (k1 w (Old.refl w) ⟨g, Le.refl _ _⟩) (next _ _ k2 (.inl (Old.refl w)))
 · rw [if_neg (by simp [hw])]
   exact next _ _ ⟨_, g, hR.based.setD hdo undef_rep, he⟩ (.inl (Old.refl w))
theorem drawn_sound (ht : TabOk' P cx.tab) (henv : EnvOk P cx.env) (hd : ∀ o ∈ ops.toList, ∀ t, o.dst = some t → t < N) (hsel : Region.noSelect ops = true) (hp : ∀ c a w, ¬ Q (.panic c) a w) {K : St → Option α} {d : Array Bool} {k : Nat}
  (hend : ∀ (T : Obl) (fuel : Nat) (s : St) (g : Gh) (a : Act) (w : World), k ≤ fuel → R g0 w0 N s g a w → K s = some r → Met ops T d g w → wpAnyG P .any ops Q fuel T d a w) :
  ∀ (l : List (Nat × Fl)) (fuel : Nat) (T : Obl) (listed : Array Bool) (s : St) (g : Gh) (a : Act) (w : World), l.length + k ≤ fuel → drawTo ops l listed = some d → R g0 w0 N s g a w → runDrawn cx ops l s K = some r → Met ops T listed g w → wpAnyG P .any ops Q fuel T listed a w
 | [], fuel, T, listed, s, g, a, w, hf, hok, hR, h, hm => by
  simp only [drawTo, Option.some.injEq] at hok
  subst hok
  exact hend T fuel s g a w (by simpa using hf) hR h hm
 | (i, f) :: l, fuel, T, listed, s, g, a, w, hf, hok, hR, h, hm => by
  simp only [List.length_cons] at hf
  obtain ⟨fuel, rfl⟩ : ∃ n, fuel = n + 1 := ⟨fuel - 1, by omega⟩
  have hf : l.length + k ≤ fuel := by omega
  simp only [drawTo] at hok
  cases hst : drawStep ops i f listed with
  | false => rw [hst] at hok; cases hok
  | true =>
  simp only [hst, cond_true] at hok
  simp only [runDrawn] at h
  split at h <;> try (cases h; done)
  rename_i o ho
  have hdo := hd o (by
   rw [← Array.getElem?_toList] at ho
   exact List.mem_of_getElem? ho)
  have rest : ∀ (T' : Obl) s' g' a' w', R g0 w0 N s' g' a' w' → runDrawn cx ops l s' K = some r → Met ops T' (listed.setIfInBounds i true) g' w' → wpAnyG P .any ops Q fuel T' (listed.setIfInBounds i true) a' w' :=
   fun T' s' g' a' w' k1 k2 k3 => drawn_sound ht henv hd hsel hp hend l fuel T' _ s' g' a' w' hf hok k1 k2 k3
  -- taken first: it yields its value whatever those do that could come first
  have first : ∀ (S : World → Prop) (C : Nat → Bool) (v : Value), (Region.ready .any ops listed).contains i = true → Region.free .any ops listed i = true →
   (∀ j oj, ops[j]? = some oj → j ≠ i → listed.getD j true = false → C j = false → ∃ e ∈ oj.after, Region.binds .any e = true ∧ (e.on = i ∨ (C e.on = false ∧ listed.getD e.on false = false))) →
   YieldsIf P ops S o v a → S w → (∃ s' g', R g0 (w0.and g w) N s' g' (a.put o.dst v) w ∧ runDrawn cx ops l s' K = some r ∧ Met ops ((S, C) :: T) (listed.setIfInBounds i true) g' w) → wpAnyG P .any ops Q (fuel + 1) T listed a w := by
   intro S C v hr hfr hcl hy hS ⟨s', g', k1, k2, k3⟩
   exact wpAnyG_first ho (Region.noSelect_spec hsel) (fun c a w h => absurd h (hp c _ w)) fuel T listed a w (Region.free_spec ho hfr) hcl (by simpa using hr) hy hS (fun t ht _ => hm.now t ht) (rest _ s' g' _ w k1.unbased.1 k2 k3)
  cases f with
  | flo =>
   simp only [drawStep, Bool.and_eq_true] at hst
   have hc := guard_cases hR h
   have hS : (fun w' => ∃ g', Le g w g' w') w := ⟨g, Le.refl _ _⟩
   have hmet : ∀ g', Le g w g' w → Met ops (((fun w' => ∃ g', Le g w g' w'), fun _ => true) :: T) (listed.setIfInBounds i true) g' w := fun g' hl t ht => by
    rcases List.mem_cons.1 ht with rfl | ht
    · exact .inl ⟨g, w, hl, fun w' h => h⟩
    · exact hm.calm hl i t ht
   rcases hc with ⟨hw, he⟩ | ⟨hw, he⟩
   · simp only [execF] at he
     cases hfl : floats s o
     · simp [hfl] at he
     · simp only [hfl, cond_true] at he
       obtain ⟨mv, k1, s', g', k2, k3⟩ := floats_sound ht hR.based hdo hfl he
       exact first _ _ mv hst.1 hst.2 (fun j oj _ _ _ h => by cases h) (.inl ⟨hw, fun w' ⟨g', hl⟩ => k1 g' w' hl⟩) hS ⟨s', g', k2, k3, hmet g' k2.unbased.2⟩
   · exact first _ _ undef hst.1 hst.2 (fun j oj _ _ _ h => by cases h) (.inr ⟨hw, rfl⟩) hS ⟨_, g, hR.based.setD hdo undef_rep, he, hmet g (Le.refl _ _)⟩
  | qui =>
   simp only [drawStep, Bool.and_eq_true, ho] at hst
   obtain ⟨⟨⟨hr, hfr⟩, hq⟩, hld⟩ := hst
   have hc := guard_cases hR h
   simp only [quietOk, Bool.and_eq_true, List.all_eq_true, Bool.not_eq_true', List.mem_range] at hq
   obtain ⟨hq1, hq2⟩ := hq
   let C : Nat → Bool := fun j => !Nat.beq j i && !(waits ops i).any (Nat.beq j)
   have hcl : ∀ j oj, ops[j]? = some oj → j ≠ i → listed.getD j true = false → C j = false → ∃ e ∈ oj.after, Region.binds .any e = true ∧ (e.on = i ∨ (C e.on = false ∧ listed.getD e.on false = false)) := by
    intro j oj hj hji hun hcj
    have hb : Nat.beq j i = false := by rw [Bool.eq_false_iff]; intro e; exact hji (Nat.eq_of_beq_eq_true e)
    have hmem : j ∈ waits ops i := by
     rw [← anyBeq]
     simpa [C, hb] using hcj
    obtain ⟨o', h1, e, h2, h3, h4⟩ := waits_spec hmem
    rw [hj] at h1
    injection h1 with h1
    subst h1
    refine ⟨e, h2, h3, h4.imp id fun h4 => ⟨?_, hq1 _ h4⟩⟩
    simp only [C, anyBeq.2 h4, Bool.not_true, Bool.and_false]
   have hmet : ∀ g', Le g w g' w → Met ops ((Old w, C) :: T) (listed.setIfInBounds i true) g' w := fun g' hl t ht => by
    rcases List.mem_cons.1 ht with rfl | ht
    · refine .inr ⟨Old.refl w, fun w1 w2 h1 h2 => h1.trans h2, fun j oj hj hun hoj => ?_⟩
      have hun := listed_back hun
      have := hq2 j (Array.getElem?_eq_some_iff.1 hoj).1
      simp only [C, Bool.and_eq_true, Bool.not_eq_true'] at hj
      simp only [hun, hj.1, hj.2, hoj, Bool.false_or] at this
      exact this
    · exact hm.calm hl i t ht
   rcases hc with ⟨hw, he⟩ | ⟨hw, he⟩
   · have he : exec cx o s (fun s => runDrawn cx ops l s K) = some r := he
     obtain ⟨t, x, hop⟩ : ∃ t x, o.op = .load t x := by
      unfold isLoad at hld
      split at hld <;> try (cases hld; done)
      exact ⟨_, _, by assumption⟩
     obtain ⟨mv, k1, s', g', k2, k3⟩ := load_still ht hR.based hdo hop he
     exact first (Old w) C mv hr hfr hcl (.inl ⟨hw, fun w' hw' => k1 w' hw'⟩) (Old.refl w) ⟨s', g', k2, k3, hmet g' k2.unbased.2⟩
   · exact first (Old w) C undef hr hfr hcl (.inr ⟨hw, rfl⟩) (Old.refl w) ⟨_, g, hR.based.setD hdo undef_rep, he, hmet g (Le.refl _ _)⟩
  | sole =>
   have hr : Region.ready .any ops listed = [i] := by simpa [drawStep] using hst
   refine ⟨fun h => (by rw [hr] at h; cases h), fun j hj => ?_⟩
   rw [hr, List.mem_singleton] at hj
   subst hj
   exact sole_step ht henv (by simp) ho hdo hR hm (mem_ready.1 (by rw [hr]; simp : j ∈ Region.ready .any ops listed)).1 h rest
theorem R.leave (h : R g0 w0 N s g a w) : ∃ g', R g0 w0 N (leave cx s) g' a w := by
 obtain ⟨g2, k3⟩ := h.freezeHere cx.frz
 exact k3.sealAll cx.seals
theorem dt_sound (ht : TabOk' P cx.tab) (henv : EnvOk P cx.env) (hd : ∀ o ∈ ops.toList, ∀ t, o.dst = some t → t < N) (hsel : Region.noSelect ops = true) (hp : ∀ c a w, ¬ Q (.panic c) a w) {out : Tpl} {q : out.P}
  (hQ : ∀ g a w, R g0 w0 N (out.S q) g a w → Q .normal a w) : ∀ (t : DT out) (J : Tpl) (D : J.P → Option out.P) (k : Prop) (d : Array Bool), dtB ops t d = true → dtR cx ops t J D k →
  (∀ (T : Obl) (fuel : Nat) (s : St) (g : Gh) (a : Act) (w : World), dtLen t ≤ fuel → R g0 w0 N s g a w → endT cx t s = some q → Met ops T d g w → wpAnyG P .any ops Q fuel T d a w) ∧
  (∀ (T : Obl) (fuel : Nat) (p : J.P) (g : Gh) (a : Act) (w : World) (i : Nat), dtLen t ≤ fuel + 1 → i ∈ heads t → listedOk d i → R g0 w0 N (J.S p) g a w → D p = some q → Met ops T d g w →
   wpOp P ops Q i (fun a' w' => (∀ t ∈ T, t.2 i = true → t.1 w') ∧ wpAnyG P .any ops Q fuel (T.filter fun t => t.2 i) (d.setIfInBounds i true) a' w') a w)
 | .fin, J, D, k, d, hB, hL => by
  simp only [dtB, Bool.and_eq_true] at hB
  refine ⟨fun T fuel s g a w _ hR h hm => ?_, fun T fuel p g a w i _ hi => by simp [heads] at hi⟩
  obtain ⟨g1, k1⟩ := hR.leave (cx := cx)
  obtain ⟨g2, k2⟩ := tpl_ok hB.1 h k1
  exact wpAnyG_done (by simpa using hB.2) (hQ g2 a w k2) fuel
 | .node J' D' b, J, D, k, d, hB, hL => by
  simp only [dtB, Bool.and_eq_true, Bool.not_eq_true'] at hB
  obtain ⟨⟨⟨hJ, hne⟩, hr⟩, hB⟩ := hB
  have hr : Region.ready .any ops d = heads b := by simpa using hr
  refine ⟨fun T fuel s g a w hf hR h hm => ?_, fun T fuel p g a w i _ hi => by simp [heads] at hi⟩
  simp only [endT] at h
  split at h <;> try (cases h; done)
  rename_i p hpE
  obtain ⟨g2, k2⟩ := tpl_ok hJ hpE hR
  have hm2 : ∀ g2, Le g w g2 w → Met ops T d g2 w := fun g2 hl t ht => by
   rcases hm t ht with ⟨g1, w1, h1, h2⟩ | h
   · exact .inl ⟨g1, w1, h1.trans hl, h2⟩
   · exact .inr h
  obtain ⟨g3, k3⟩ := tpl_ok hJ hpE hR.based
  cases hb : heads b with
  | nil => simp [hb] at hne
  | cons i0 rest =>
   have hpos : 1 ≤ dtLen (DT.node J' D' b) := by
    simp only [dtLen]
    cases b with
    | br l t r =>
     cases l with
     | nil => simp [heads] at hb
     | cons x l => simp only [dtLen, List.length_cons]; omega
    | _ => simp [heads] at hb
   obtain ⟨fuel, rfl⟩ : ∃ n, fuel = n + 1 := ⟨fuel - 1, by omega⟩
   refine ⟨fun h => (by rw [hr, hb] at h; cases h), fun i hi => ?_⟩
   have hun : listedOk d i := (mem_ready.1 hi).1
   rw [hr] at hi
   exact (dt_sound ht henv hd hsel hp hQ b J' D' k d hB hL).2 T fuel p g3 a w i (by simpa [dtLen] using hf) hi hun k3.unbased.1 h (hm2 g3 k3.unbased.2)
 | .br l t rest, J, D, k, d, hB, hL => by
  simp only [dtB, Bool.and_eq_true] at hB
  obtain ⟨hB1, hB2⟩ := hB
  obtain ⟨hL1, hL2⟩ := hL
  refine ⟨fun T fuel s g a w _ hR h hm => by simp [endT] at h, fun T fuel p g a w i hf hi hun hR h hm => ?_⟩
  simp only [dtLen] at hf
  cases l with
  | nil => simp [heads] at hi
  | cons x l =>
   obtain ⟨i0, f⟩ := x
   simp only at hB1
   split at hB1 <;> try (cases hB1; done)
   rename_i d' hd'
   simp only [heads, List.mem_cons] at hi
   by_cases hi0 : i = i0
   · subst hi0
     have hrun := (hL1 p).trans h
     simp only [runDrawn] at hrun
     split at hrun <;> try (cases hrun; done)
     rename_i o ho
     have hdo := hd o (by
      rw [← Array.getElem?_toList] at ho
      exact List.mem_of_getElem? ho)
     have ih := (dt_sound ht henv hd hsel hp hQ t J D _ d' hB1 hL2).1
     have hZ : ∀ T' s' g' a' w', R g0 w0 N s' g' a' w' → runDrawn cx ops l s' (endT cx t) = some q → Met ops T' (d.setIfInBounds i true) g' w' → wpAnyG P .any ops Q fuel T' (d.setIfInBounds i true) a' w' :=
      fun T' s' g' a' w' k1 k2 k3 => drawn_sound ht henv hd hsel hp ih l fuel T' _ s' g' a' w' (by simp only [List.length_cons] at hf; omega) hd' k1 k2 k3
     by_cases hff : f = .flo
     · subst hff
       -- told as one that hangs on nobody: it is carried out all the same
       have hrun' : guardedBy (execF cx o .sole) ops o (J.S p) (fun s => runDrawn cx ops l s (endT cx t)) = some q := by
        refine guardedBy_mono (fun s' K h => ?_) hrun
        simp only [execF] at h ⊢
        cases e : floats s' o
        · simp [e] at h
        · simpa [e] using h
       exact sole_step ht henv (by simp) ho hdo hR hm hun hrun' hZ
     · exact sole_step ht henv hff ho hdo hR hm hun hrun hZ
   · have hi : i ∈ heads rest := hi.resolve_left hi0
     exact (dt_sound ht henv hd hsel hp hQ rest J D k d hB2 (dtR_rest t J D _ hL2)).2 T fuel p g a w i (by omega) hi hun hR h hm
 | .nobr, J, D, k, d, hB, hL => ⟨fun T fuel s g a w _ hR h hm => by simp [endT] at h, fun T fuel p g a w i _ hi => by simp [heads] at hi⟩
end
end Go.Ve
namespace Go.Ve
open Go Go.RowKit
theorem iter_eq {P Q : Type} (B : P → Option (P ⊕ Q)) (n : Nat) (p : P) : iter B (n + 1) p = match B p with
  | some (.inl p') => iter B n p'
  | some (.inr q) => some q
  | none => none := by
 rw [iter]
 cases B p with
 | none => rfl
 | some x => cases x <;> rfl
theorem iter_succ {P Q : Type} {B : P → Option (P ⊕ Q)} : ∀ (n : Nat) (p : P) (q : Q), iter B n p = some q → iter B (n + 1) p = some q
 | 0, p, q, h => by simp [iter] at h
 | n + 1, p, q, h => by
  rw [iter_eq] at h ⊢
  cases hb : B p with
  | none => rw [hb] at h; cases h
  | some x =>
   rw [hb] at h
   cases x with
   | inl p' => exact iter_succ n p' q h
   | inr q' => exact h
theorem iter_le {P Q : Type} {B : P → Option (P ⊕ Q)} {n m : Nat} {p : P} {q : Q} (hnm : n ≤ m) (h : iter B n p = some q) : iter B m p = some q := by
 induction hnm with
 | refl => exact h
 | step _ ih => exact iter_succ _ _ _ ih
theorem loopO_of {P Q : Type} {B : P → Option (P ⊕ Q)} {n : Nat} {p : P} {q : Q} (h : iter B n p = some q) : loopO B p = some q := by
 have he : ∃ q n, iter B n p = some q := ⟨q, n, h⟩
 unfold loopO
 rw [dif_pos he]
 obtain ⟨m, hm⟩ := Classical.choose_spec he
 have h1 := iter_le (Nat.le_max_left n m) h
 have h2 := iter_le (Nat.le_max_right n m) hm
 rw [h1] at h2
 injection h2 with h2
 rw [h2]
theorem of_loopO {P Q : Type} {B : P → Option (P ⊕ Q)} {p : P} {q : Q} (h : loopO B p = some q) : ∃ n, iter B n p = some q := by
 unfold loopO at h
 split at h
 · rename_i he
   injection h with h
   subst h
   exact Classical.choose_spec he
 · cases h
theorem loopO_eq {P Q : Type} (B : P → Option (P ⊕ Q)) (p : P) : loopO B p = match B p with
  | some (.inl p') => loopO B p'
  | some (.inr q) => some q
  | none => none := by
 cases hb : B p with
 | none =>
  cases h : loopO B p with
  | none => rfl
  | some q =>
   obtain ⟨n, hn⟩ := of_loopO h
   cases n with
   | zero => simp [iter] at hn
   | succ n => rw [iter_eq, hb] at hn; cases hn
 | some x =>
  cases x with
  | inr q => exact loopO_of (n := 1) ((iter_eq B 0 p).trans (by rw [hb]))
  | inl p' =>
   show loopO B p = loopO B p'
   cases h : loopO B p' with
   | some q =>
    obtain ⟨n, hn⟩ := of_loopO h
    exact loopO_of (n := n + 1) ((iter_eq B n p).trans (by rw [hb]; exact hn))
   | none =>
    cases h' : loopO B p with
    | none => rfl
    | some q =>
     obtain ⟨n, hn⟩ := of_loopO h'
     cases n with
     | zero => simp [iter] at hn
     | succ n =>
      rw [iter_eq, hb] at hn
      rw [loopO_of hn] at h
      cases h
def outB : Out → Bool
 | .one _ J => J.ok
 | .or _ J o => J.ok && outB o
def dstB (N : Nat) (ops : Array Oper) : Bool := ops.toList.all fun o => match o.dst with
 | some t => Nat.blt t N
 | none => true
def annB (N : Nat) : Code → Ann → Bool
 | .region _ ops d, an => dstB N ops && bif d then (match an with
  | .draw l => drawOk0 ops l
  | .draws l out t => out.ok && drawsOk0 ops l t
  | _ => true) else true
 | .seq a b, an => match an with
  | .seq x y => annB N a x && annB N b y
  | .cut J x y => J.ok && annB N a x && annB N b y
  | _ => annB N a .nil && annB N b .nil
 | .cond _ a b, an => match an with
  | .seq x y => annB N a x && annB N b y
  | _ => annB N a .nil && annB N b .nil
 | .block _ c, an => annB N c an
 | .loop c, an => match an with
  | .loop J O _ x => J.ok && outB O && annB N c x
  | _ => true
 | _, _ => true
def Rounds (cx : Cx) : Code → Ann → Prop → Prop
 | .region _ ops d, an, k => match an with
  | .draws l out t => bif d then dtR cx ops t ⟨[], [], []⟩ (fun _ => none) k else k
  | _ => k
 | .seq a b, an, k => match an with
  | .seq x y => Rounds cx a x (Rounds cx b y k)
  | .cut _ x y => Rounds cx a x (Rounds cx b y k)
  | _ => Rounds cx a .nil (Rounds cx b .nil k)
 | .cond _ a b, an, k => match an with
  | .seq x y => Rounds cx a x (Rounds cx b y k)
  | _ => Rounds cx a .nil (Rounds cx b .nil k)
 | .block _ c, an, k => Rounds cx c an k
 | .loop c, an, k => match an with
  | .loop J O B x => (∀ p, run cx c x (J.S p) (leaf J O) = B p) ∧ Rounds cx c x k
  | _ => k
 | _, _, k => k
theorem Rounds.rest {cx : Cx} : ∀ (c : Code) (an : Ann) (k : Prop), Rounds cx c an k → k
 | .seq a b, an, k, h => by
  cases an <;> exact Rounds.rest b _ k (Rounds.rest a _ _ h)
 | .cond _ a b, an, k, h => by
  cases an <;> exact Rounds.rest b _ k (Rounds.rest a _ _ h)
 | .block _ c, an, k, h => Rounds.rest c an k h
 | .loop c, an, k, h => by
  cases an <;> first | exact Rounds.rest c _ k h.2 | exact h
 | .region _ ops d, an, k, h => by
  cases an <;> try exact h
  rename_i l out t
  cases d with
  | false => exact h
  | true => exact dtR_rest t _ _ k h
 | .skip, _, _, h | .rangeFunc _ _ _ _, _, _, h | .exit _, _, _, h | .scope _, _, _, h | .label _, _, _, h | .goto _, _, _, h | .ret, _, _, h | .refuse _, _, _, h => h
section
variable {P : Program} {g0 : Gh} {w0 : Fra} {N : Nat} {s : St} {g : Gh} {a : Act} {w : World} {cx : Cx}
def Post (g0 : Gh) (w0 : Fra) (N : Nat) {α : Type} (K : Ex → St → Option α) (r : α) : Exit → Act → World → Prop
 | .normal, a, w => Next g0 w0 N (K .nrm) r a w
 | .exit id, a, w => Next g0 w0 N (K (.ex id)) r a w
 | .ret, a, w => Next g0 w0 N (K .ret) r a w
 | _, _, _ => False
theorem Post.mono {α β : Type} {K : Ex → St → Option α} {r : α} {K' : Ex → St → Option β} {r' : β} (h : ∀ e s, K e s = some r → K' e s = some r') {e : Exit} {a : Act} {w : World} (hp : Post g0 w0 N K r e a w) : Post g0 w0 N K' r' e a w := by
 cases e <;> first | (obtain ⟨s, g, k1, k2⟩ := hp; exact ⟨s, g, k1, h _ _ k2⟩) | exact hp.elim
theorem out_sound {α : Type} {K : Ex → St → Option α} {r : α} : ∀ {O : Out}, outB O = true → ∀ (q : O.P) (e : Ex) (s : St) (g : Gh) (a : Act) (w : World), O.E e s = some q → R g0 w0 N s g a w → O.go q K = some r → ∃ s' g', R g0 w0 N s' g' a w ∧ K e s' = some r
 | .one e' J, hO, q, e, s, g, a, w, hE, hR, hg => by
  simp only [Out.E] at hE
  split at hE <;> try (cases hE; done)
  rename_i he _
  subst he
  obtain ⟨g', k⟩ := tpl_ok hO hE hR
  exact ⟨_, g', k, hg⟩
 | .or e' J O, hO, q, e, s, g, a, w, hE, hR, hg => by
  simp only [Out.E] at hE
  split at hE
  · rename_i he _
    subst he
    split at hE <;> try (cases hE; done)
    rename_i p hp
    simp only [Option.some.injEq] at hE
    subst hE
    simp only [outB, Bool.and_eq_true] at hO
    obtain ⟨g', k⟩ := tpl_ok hO.1 hp hR
    exact ⟨_, g', k, hg⟩
  · split at hE <;> try (cases hE; done)
    rename_i p hp
    simp only [Option.some.injEq] at hE
    subst hE
    simp only [outB, Bool.and_eq_true] at hO
    exact out_sound hO.2 p e s g a w hp hR hg
theorem iter_rounds {c : Code} {J : Tpl} {O : Out} {B : J.P → Option (J.P ⊕ O.P)} {α : Type} {K : Ex → St → Option α} {r : α} (hJ : J.ok = true) (hO : outB O = true)
  (hB : ∀ p z s g a w, s = J.S p → R g0 w0 N s g a w → B p = some z → c.wp P (Post g0 w0 N (leaf J O) z) a w) :
  ∀ (n : Nat) (p : J.P) (q : O.P) (g : Gh) (a : Act) (w : World), R g0 w0 N (J.S p) g a w → iter B n p = some q → O.go q K = some r → Code.rounds P c (Post g0 w0 N K r) n a w
 | 0, p, q, g, a, w, hR, hi, hg => by simp [iter] at hi
 | n + 1, p, q, g, a, w, hR, hi, hg => by
  simp only [iter] at hi
  show c.wp P (Exit.then (Code.rounds P c (Post g0 w0 N K r) n) (Post g0 w0 N K r)) a w
  split at hi
  · rename_i p' hb
    refine wp_mono (hB p _ _ g a w rfl hR hb) fun e a' w' hq => ?_
    cases e with
    | normal =>
     obtain ⟨s', g', k1, k2⟩ := hq
     simp only [leaf] at k2
     split at k2 <;> try (cases k2; done)
     rename_i p1 hp1
     injection k2 with k2
     injection k2 with k2
     subst k2
     obtain ⟨g2, k3⟩ := tpl_ok hJ hp1 k1
     exact iter_rounds hJ hO hB n _ q g2 a' w' k3 hi hg
    | exit id =>
     obtain ⟨s', g', k1, k2⟩ := hq
     simp only [leaf] at k2
     split at k2 <;> cases k2
    | ret =>
     obtain ⟨s', g', k1, k2⟩ := hq
     simp only [leaf] at k2
     split at k2 <;> cases k2
    | _ => exact hq.elim
  · rename_i q' hb
    injection hi with hi
    subst hi
    refine wp_mono (hB p _ _ g a w rfl hR hb) fun e a' w' hq => ?_
    cases e with
    | normal =>
     obtain ⟨s', g', k1, k2⟩ := hq
     simp only [leaf] at k2
     split at k2 <;> cases k2
    | exit id =>
     obtain ⟨s', g', k1, k2⟩ := hq
     simp only [leaf] at k2
     split at k2 <;> try (cases k2; done)
     rename_i q1 hq1
     injection k2 with k2
     injection k2 with k2
     subst k2
     exact out_sound hO _ _ _ _ _ _ hq1 k1 hg
    | ret =>
     obtain ⟨s', g', k1, k2⟩ := hq
     simp only [leaf] at k2
     split at k2 <;> try (cases k2; done)
     rename_i q1 hq1
     injection k2 with k2
     injection k2 with k2
     subst k2
     exact out_sound hO _ _ _ _ _ _ hq1 k1 hg
    | _ => exact hq.elim
  · cases hi
theorem run_seq_sound {x y : Code} {α β : Type} {K : Ex → St → Option α} {r : α} {K1 : Ex → St → Option β} {r1 : β}
  (h1 : ∀ s g a w, R g0 w0 N s g a w → K1 .nrm s = some r1 → y.wp P (Post g0 w0 N K r) a w) (h2 : ∀ e s, e ≠ .nrm → K1 e s = some r1 → K e s = some r) (h : x.wp P (Post g0 w0 N K1 r1) a w) : (Code.seq x y).wp P (Post g0 w0 N K r) a w := by
 refine wp_seq (wp_mono h fun e a' w' hq => ?_)
 cases e with
 | normal => obtain ⟨s', g', k1, k2⟩ := hq; exact h1 _ _ _ _ k1 k2
 | exit id => obtain ⟨s', g', k1, k2⟩ := hq; exact ⟨s', g', k1, h2 _ _ (by simp) k2⟩
 | ret => obtain ⟨s', g', k1, k2⟩ := hq; exact ⟨s', g', k1, h2 _ _ (by simp) k2⟩
 | _ => exact hq.elim
theorem joinO_some {A α : Type} {x : Option (A ⊕ α)} {f : A → Option α} {r : α} (h : joinO x f = some r) : (∃ p, x = some (.inl p) ∧ f p = some r) ∨ x = some (.inr r) := by
 unfold joinO at h
 split at h
 · rename_i p
   exact .inl ⟨p, rfl, h⟩
 · rename_i r'
   injection h with h
   subst h
   exact .inr rfl
 · cases h
theorem dstB_spec {ops : Array Oper} (h : dstB N ops = true) : ∀ o ∈ ops.toList, ∀ t, o.dst = some t → t < N := by
 intro o ho t e
 simp only [dstB, List.all_eq_true] at h
 have := h o ho
 simp only [e, Nat.blt_eq] at this
 exact this
theorem run_sound (hP : P.follows .mixedOrders = true) (ht : TabOk' P cx.tab) (henv : EnvOk P cx.env) : ∀ (c : Code) (an : Ann) (s : St) (g : Gh) (a : Act) (w : World) {α : Type} (K : Ex → St → Option α) (r : α) (k : Prop), annB N c an = true → Rounds cx c an k → R g0 w0 N s g a w → run cx c an s K = some r → c.wp P (Post g0 w0 N K r) a w
 | .skip, an, s, g, a, w, _, K, r, k, hB, hL, hR, h => wp_skip ⟨s, g, hR, h⟩
 | .exit id, an, s, g, a, w, _, K, r, k, hB, hL, hR, h => wp_exit ⟨s, g, hR, h⟩
 | .ret, an, s, g, a, w, _, K, r, k, hB, hL, hR, h => wp_ret ⟨s, g, hR, h⟩
 | .region id ops d, an, s, g, a, w, _, K, r, k, hB, hL, hR, h => by
  simp only [annB, Bool.and_eq_true] at hB
  have hd := dstB_spec hB.1
  have fine : ∀ a w, Next g0 w0 N (fun s => K .nrm (leave cx s)) r a w → Post g0 w0 N K r .normal a w := by
   rintro a w ⟨s1, g1, k1, k2⟩
   obtain ⟨g3, k4⟩ := k1.leave (cx := cx)
   exact ⟨_, g3, k4, k2⟩
  cases d with
  | false => exact wp_region_list (run_region ht (callM_sound ht henv) _ s g a w _ hR hd fine h)
  | true =>
   simp only [run, cond_true] at h
   cases an <;> try (cases h; done)
   · rename_i l
     have hB := hB.2
     simp only [cond_true, drawOk0, Bool.and_eq_true] at hB
     obtain ⟨⟨hB1, hB2⟩, hB3⟩ := hB
     split at hB3 <;> try (cases hB3; done)
     rename_i d hd'
     refine wp_region_any hP (wpAny_of_G _ [] _ _ _ (drawn_sound ht henv hd hB1 (r := r) (g0 := g0) (w0 := w0) (k := 0) (d := d) (fun c a w h => h) (fun T fuel s g a w _ hR h hm => wpAnyG_done (by simpa using hB3) (fine a w ⟨s, g, hR, h⟩) fuel) l _ [] _ s g a _ (Nat.le_of_ble_eq_true hB2) hd' ?_ h (fun t ht => by cases ht)))
     exact hR.drew 1
   · rename_i l out t
     have hB := hB.2
     simp only [cond_true, Bool.and_eq_true, drawsOk0] at hB
     obtain ⟨hO, ⟨hB1, hB2⟩, hB3⟩ := hB
     split at hB3 <;> try (cases hB3; done)
     rename_i d hd'
     have hL : dtR cx ops t ⟨[], [], []⟩ (fun _ => none) k := hL
     refine wp_region_any hP (wpAny_of_G _ [] _ _ _ (drawn_sound ht henv hd hB1 (r := r) (g0 := g0) (w0 := w0) (k := dtLen t) (d := d) (fun c a w h => h) (fun T fuel s g a w hf hR h hm => ?_) l _ [] _ s g a _ (Nat.le_of_ble_eq_true hB2) hd' (hR.drew 1) h (fun t ht => by cases ht)))
     split at h <;> try (cases h; done)
     rename_i q hq
     exact (dt_sound (q := q) ht henv hd hB1 (fun c a w h => h) (fun g a w hR => ⟨_, g, hR, h⟩) t _ _ k d hB3 hL).1 T fuel s g a w hf hR hq hm
 | .seq x y, an, s, g, a, w, α, K, r, k, hB, hL, hR, h => by
  have plain : ∀ ax ay, annB N x ax = true → annB N y ay = true → Rounds cx x ax (Rounds cx y ay k) → (run cx x ax s fun e s => match e with
   | .nrm => run cx y ay s K
   | e => K e s) = some r → (Code.seq x y).wp P (Post g0 w0 N K r) a w := fun ax ay h1 h2 h3 h4 =>
   run_seq_sound (fun s g a w k1 k2 => run_sound hP ht henv y ay s g a w K r k h2 (Rounds.rest x ax _ h3) k1 k2) (fun e s he k => by
    cases e with
    | nrm => exact absurd rfl he
    | _ => exact k) (run_sound hP ht henv x ax s g a w _ r _ h1 h3 hR h4)
  cases an <;> simp only [annB, Bool.and_eq_true] at hB
  case cut J ax ay =>
   obtain ⟨⟨hJ, h1⟩, h2⟩ := hB
   have hL : Rounds cx x ax (Rounds cx y ay k) := hL
   simp only [run] at h
   rcases joinO_some h with ⟨p, hp, h⟩ | hp
   · refine run_seq_sound (fun s g a w k1 k2 => ?_) (fun e s he k => ?_) (run_sound hP ht henv x ax s g a w _ _ _ h1 hL hR hp)
     · simp only at k2
       split at k2 <;> try (cases k2; done)
       rename_i p' hp'
       injection k2 with k2
       injection k2 with k2
       subst k2
       obtain ⟨g2, k3⟩ := tpl_ok hJ hp' k1
       exact run_sound hP ht henv y ay _ g2 a w K r k h2 (Rounds.rest x ax _ hL) k3 h
     · cases e with
       | nrm => exact absurd rfl he
       | _ =>
        simp only at k
        split at k <;> cases k
   · refine run_seq_sound (fun s g a w k1 k2 => ?_) (fun e s he k => ?_) (run_sound hP ht henv x ax s g a w _ _ _ h1 hL hR hp)
     · simp only at k2
       split at k2 <;> cases k2
     · cases e with
       | nrm => exact absurd rfl he
       | _ =>
        simp only at k
        split at k <;> try (cases k; done)
        rename_i r2 hr2
        injection k with k
        injection k with k
        subst k
        exact hr2
  case seq ax ay => exact plain ax ay hB.1 hB.2 hL h
  all_goals exact plain .nil .nil hB.1 hB.2 hL h
 | .cond c x y, an, s, g, a, w, α, K, r, k, hB, hL, hR, h => by
  simp only [run] at h
  split at h <;> try (cases h; done)
  rename_i b hb
  have hc : a.eval c = .bool b := by
   have := hR.ev c
   rw [hb] at this
   exact this.bool
  refine wp_cond hc ?_
  have plain : ∀ ax ay, annB N x ax = true → annB N y ay = true → Rounds cx x ax (Rounds cx y ay k) → (bif b then run cx x ax s K else run cx y ay s K) = some r → (if b = true then x else y).wp P (Post g0 w0 N K r) a w := fun ax ay h1 h2 h3 h4 => by
   cases b with
   | true => exact run_sound hP ht henv x ax s g a w K r _ h1 h3 hR h4
   | false => exact run_sound hP ht henv y ay s g a w K r _ h2 (Rounds.rest x ax _ h3) hR h4
  cases an <;> simp only [annB, Bool.and_eq_true] at hB
  case seq ax ay => exact plain ax ay hB.1 hB.2 hL h
  all_goals exact plain .nil .nil hB.1 hB.2 hL h
 | .block id c, an, s, g, a, w, α, K, r, k, hB, hL, hR, h => by
  refine wp_block (wp_mono (run_sound hP ht henv c an s g a w _ r k hB hL hR h) fun e a' w' hq => ?_)
  cases e with
  | normal => exact hq
  | exit i =>
   obtain ⟨s', g', k1, k2⟩ := hq
   simp only at k2
   show if i = id then _ else _
   by_cases hi : i = id
   · subst hi
     rw [if_pos rfl]
     simp only [Nat.beq_refl, cond_true] at k2
     exact ⟨s', g', k1, k2⟩
   · rw [if_neg hi]
     have : Nat.beq i id = false := by rw [Bool.eq_false_iff]; intro e; exact hi (Nat.eq_of_beq_eq_true e)
     simp only [this, cond_false] at k2
     exact ⟨s', g', k1, k2⟩
  | ret => exact hq
  | _ => exact hq.elim
 | .loop c, an, s, g, a, w, α, K, r, k, hB, hL, hR, h => by
  cases an <;> simp only [run] at h <;> try (cases h; done)
  rename_i J O B x
  simp only [annB, Bool.and_eq_true] at hB
  obtain ⟨⟨hJ, hO⟩, h1⟩ := hB
  obtain ⟨hL1, hL2⟩ := hL
  split at h <;> try (cases h; done)
  rename_i p hp
  split at h <;> try (cases h; done)
  rename_i q hq
  obtain ⟨g2, k'⟩ := tpl_ok hJ hp hR
  obtain ⟨n, hn⟩ := of_loopO hq
  refine wp_loop_rounds n (iter_rounds hJ hO (fun p z s g a w hs hR hb => ?_) n p q g2 a w k' hn h)
  subst hs
  exact run_sound hP ht henv c x _ g a w _ z k h1 hL2 hR ((hL1 p).trans hb)
 | .rangeFunc _ _ _ _, _, _, _, _, _, _, _, _, _, _, _, _, h => by cases h
 | .scope _, _, _, _, _, _, _, _, _, _, _, _, _, h => by cases h
 | .label _, _, _, _, _, _, _, _, _, _, _, _, _, h => by cases h
 | .goto _, _, _, _, _, _, _, _, _, _, _, _, _, h => by cases h
 | .refuse _, _, _, _, _, _, _, _, _, _, _, _, _, h => by cases h
end
end Go.Ve
namespace Go.Ve
open Go Go.RowKit
def entryObs : Nat → List Ob → St → St
 | _, [], s => s
 | k, o :: l, s => entryObs (k + 1) l (s.put (extId k) o)
def atT (os : List Ob) : AT → Option (Ty × TV)
 | .val v => some (v.t, .val v)
 | .ref u n p => match os[n]? with
  | some o => bif noIdx p && decide (tyAt o.sig.ty p = some (.list u)) then some (.list u, .ref (extId n) p) else none
  | none => none
 | .pr a b => match atT os a with
  | some (ta, x) => match atT os b with
   | some (tb, y) => some (.prod ta tb, .mkpr x y)
   | none => none
  | none => none
def entryArg (os : List Ob) (n : Nat) (s : St) : Arg → St
 | .val v => s.set n (.val v)
 | .own m v => (bring n m v.t v.x 0 s).2.2.set n (bring n m v.t v.x 0 s).1
 | .ext k => match os[k]? with
  | some (.vec ..) => s.set n (.ref (extId k) [])
  | _ => s
 | .adr k => match os[k]? with
  | some (.vec ..) => s
  | _ => s.set n (.addr (extId k) [])
 | .cst v => s.set n (.saddr v)
 | .fn f ns => s.set n (.fn ⟨f, ns.map extId⟩)
 | .nilfn => s.set n .nilfn
 | .str T => match atT os T with
  | some (_, x) => s.set n x
  | none => s
def entryArgs (os : List Ob) : Nat → List Arg → St → St
 | _, [], s => s
 | n, x :: l, s => entryArgs os (n + 1) l (entryArg os n s x)
def entry (as : List Arg) (os : List Ob) : St := entryArgs os 0 as (entryObs 0 os St.empty)
structure RS where
 n : Nat
 m : Mask
 t : Ty
 cell : Option TypeId := none
@[reducible] def resP : List RS → Type
 | [] => Unit
 | r :: l => r.t.den × resP l
def resTake (s : St) (r : RS) : Option (Mask × Val × St) := match r.cell with
 | none => s.take r.t (s.tmp r.n)
 | some _ => match s.tmp r.n with
  | .addr id [] => match s.obj id with
   | some (.box m v) => bif s.free id then some (m, v, (s.purge id).drop id) else none
   | _ => none
  | _ => none
def resE : (l : List RS) → St → Option (resP l × St)
 | [], s => some ((), s)
 | r :: l, s => match resTake s r with
  | some (m', v, s') => bif m'.covers r.m then match castTo r.t v with
   | some x => match resE l s' with
    | some (p, s'') => some ((x, p), s'')
    | none => none
   | none => none
   else none
  | none => none
def resV : (l : List RS) → resP l → List (Mask × Val)
 | [], _ => []
 | r :: l, p => (r.m, ⟨r.t, p.1⟩) :: resV l p.2
@[reducible] def extObs : Nat → List OSh → List (Id × OSh)
 | _, [] => []
 | k, o :: l => (extId k, o) :: extObs (k + 1) l
def obV : (l : List (Id × OSh)) → obP l → List Ob
 | [], _ => []
 | (_, .box m t) :: l, p => .box m ⟨t, p.1⟩ :: obV l p.2
 | (_, .vec m t) :: l, p => .vec m t p.1 :: obV l p.2
 | (_, .fbox g) :: l, p => .fbox g :: obV l p
structure End where
 rs : List RS
 os : List OSh := []
def End.ob (F : End) : List (Id × OSh) := extObs 0 F.os
@[reducible] def End.P (F : End) : Type := resP F.rs × obP (extObs 0 F.os)
def holeOk (s : St) : Bool := match s.hole with
 | none => true
 | some (i, _) => Nat.blt i.1 1000000
def finS (F : End) (s : St) : Option F.P := match resE F.rs s with
 | some (p, s') => bif holeOk s' then match obE s' (extObs 0 F.os) with
  | some q => some (p, q)
  | none => none
  else none
 | none => none
def fin (F : End) : Ex → St → Option F.P
 | .ex _, _ => none
 | _, s => finS F s
def pack (F : End) (p : F.P) : Res := (resV F.rs p.1, obV (extObs 0 F.os) p.2)
def OSh.sig : OSh → Sig
 | .box _ t => .box t
 | .vec _ t => .vec t
 | .fbox _ => .fbox
section
variable {P : Program} {g0 : Gh} {w0 : Fra} {N : Nat} {s : St} {g : Gh} {a : Act} {w : World}
theorem R.tell (h : R g0 w0 N s g a w) {n : Nat} {v : TV} (hv : TRep g w s.sig v (a.tmps.getD n undef)) : R g0 w0 N (s.set n v) g a w where
 frame := h.frame
 tmps t := by
  show TRep g w s.sig (upd s.tmp n v t) _
  by_cases e : t = n
  · subst e; rw [upd_same]; exact hv
  · rw [upd_ne _ _ e]; exact h.tmps t
 objs := h.objs
 lives := h.lives
 defers := h.defers
 size := h.size
 small := h.small
 ext := h.ext
theorem entryObs_tmp : ∀ (l : List Ob) (k : Nat) (s : St), (entryObs k l s).tmp = s.tmp ∧ (entryObs k l s).hole = s.hole
 | [], k, s => ⟨rfl, rfl⟩
 | o :: l, k, s => entryObs_tmp l (k + 1) (s.put (extId k) o)
theorem entryObs_obj : ∀ (l : List Ob) (k : Nat) (s : St) (id : Id) (o : Ob), (entryObs k l s).obj id = some o → s.obj id = some o ∨ ∃ j, l[j]? = some o ∧ id = extId (k + j)
 | [], k, s, id, o, h => .inl h
 | x :: l, k, s, id, o, h => by
  rcases entryObs_obj l (k + 1) _ id o h with e | ⟨j, e1, e2⟩
  · rw [put_obj] at e
    by_cases hi : id = extId k
    · rw [if_pos hi] at e
      injection e with e
      subst e
      exact .inr ⟨0, rfl, hi⟩
    · rw [if_neg hi] at e; exact .inl e
  · exact .inr ⟨j + 1, by simpa using e1, by rw [e2]; congr 1; omega⟩
theorem R.begin {vals : List Value} {os : List Ob} (hlv : ∀ b o, g.own b = some o → b < w.heap.size) (hN : vals.length ≤ N) (hs : N ≤ 1000000) (hos : ∀ k o, os[k]? = some o → RootRep g w none (extId k) o) :
  R g (Fra.at g w) N (entryObs 0 os St.empty) g { tmps := vals.toArray ++ Array.replicate (N - vals.toArray.size) undef, defers := [] } w where
 frame := show Le g w g w from Le.refl _ _
 tmps t := by rw [(entryObs_tmp os 0 St.empty).1]; trivial
 objs id o e := by
  rw [St.hl, (entryObs_tmp os 0 St.empty).2]
  rcases entryObs_obj os 0 St.empty id o e with e | ⟨j, e1, e2⟩
  · cases e
  · rw [e2, Nat.zero_add]; exact hos j o e1
 lives := hlv
 defers := rfl
 size := by simp; omega
 small := hs
 ext id o _ _ := ⟨rfl, fun _ => rfl⟩
theorem ATC.after {g1 g2 : Gh} (hl : Le g1 w g2 w) (hx : ∀ k r, g2.hdr (some (extId k)) r = g1.hdr (some (extId k)) r) : ∀ (T : AT) (t : Ty) (cs : List Value), ATC g1 w T t cs → ATC g2 w T t cs
 | .val v, t, cs, h => ⟨h.1, h.2.le hl⟩
 | .ref u n p, t, cs, h => ⟨h.1, by rw [hx]; exact h.2.1, h.2.2⟩
 | .pr a b, t, cs, ⟨ta, tb, c, d, e1, e2, l1, l2, h1, h2⟩ => ⟨ta, tb, c, d, e1, e2, l1, l2, ATC.after hl hx a ta c h1, ATC.after hl hx b tb d h2⟩
theorem addrOf_plain {id : RId} : ∀ (p : List Step) (t : Ty) (pre : List Step) (a : Addr) (u : Ty), noIdx p = true → tyAt t p = some u → ∃ b, AddrOf g id t pre p a b
 | [], t, pre, a, u, _, _ => ⟨a, by simp [AddrOf]⟩
 | .fst :: p, t, pre, a, u, hn, ht => by
  cases t <;> simp only [tyAt, stepTy] at ht <;> try (cases ht; done)
  simp only [AddrOf]
  exact addrOf_plain p _ _ _ u hn ht
 | .snd :: p, t, pre, a, u, hn, ht => by
  cases t <;> simp only [tyAt, stepTy] at ht <;> try (cases ht; done)
  simp only [AddrOf]
  exact addrOf_plain p _ _ _ u hn ht
 | .idx i :: p, t, pre, a, u, hn, ht => by simp [noIdx] at hn
 | .arr i :: p, t, pre, a, u, hn, ht => by simp [noIdx] at hn
theorem refAt_plain {id : Id} {sg : Sig} {p : List Step} {u : Ty} (hn : noIdx p = true) (ht : tyAt sg.ty p = some (.list u)) : RefAt g id sg p := by
 cases sg with
 | vec t =>
  cases p with
  | nil => exact .inl ⟨rfl, t, rfl⟩
  | cons x p =>
   cases x with
   | fst => simp [Sig.ty, tyAt, stepTy] at ht
   | snd => simp [Sig.ty, tyAt, stepTy] at ht
   | idx i => simp [noIdx] at hn
   | arr i => simp [noIdx] at hn
 | box t => exact .inr (addrOf_plain p t [] _ _ hn ht)
 | fbox =>
  cases p with
  | nil => simp [Sig.ty, tyAt] at ht
  | cons x p => cases x <;> first | (simp [Sig.ty, tyAt, stepTy] at ht; done) | (simp [noIdx] at hn; done)
theorem atT_rep {os : List Ob} (hos : ∀ k o, s.obj (extId k) = some o → os[k]? = some o) : ∀ (T : AT) (t t' : Ty) (cs : List Value) (x : TV), ATC g w T t cs → atT os T = some (t', x) → t' = t ∧ TC g w s.sig x t cs
 | .val v, t, t', cs, x, h, hx => by
  simp only [atT, Option.some.injEq, Prod.mk.injEq] at hx
  obtain ⟨rfl, rfl⟩ := hx
  exact ⟨h.1, h⟩
 | .ref u n p, t, t', cs, x, h, hx => by
  simp only [atT] at hx
  split at hx <;> try (cases hx; done)
  rename_i o ho
  cases hb : (noIdx p && decide (tyAt o.sig.ty p = some (.list u)))
  · simp [hb] at hx
  · simp only [hb, cond_true, Option.some.injEq, Prod.mk.injEq] at hx
    simp only [Bool.and_eq_true, decide_eq_true_eq] at hb
    obtain ⟨rfl, rfl⟩ := hx
    obtain ⟨rfl, h2, h3⟩ := h
    refine ⟨rfl, h2, fun sg hsg => ?_⟩
    simp only [St.sig] at hsg
    cases hob : s.obj (extId n) with
    | none => simp [hob] at hsg
    | some b =>
     have := hos n b hob
     rw [ho] at this
     injection this with this
     subst this
     simp only [hob, Option.map_some, Option.some.injEq] at hsg
     subst hsg
     exact ⟨hb.2, refAt_plain hb.1 hb.2⟩
 | .pr a b, t, t', cs, x, h, hx => by
  obtain ⟨ta, tb, c, d, rfl, rfl, l1, l2, h1, h2⟩ := h
  simp only [atT] at hx
  split at hx <;> try (cases hx; done)
  rename_i ta' xa ha
  split at hx <;> try (cases hx; done)
  rename_i tb' xb hb
  simp only [Option.some.injEq, Prod.mk.injEq] at hx
  obtain ⟨rfl, rfl⟩ := hx
  obtain ⟨rfl, k1⟩ := atT_rep hos a ta ta' c xa h1 ha
  obtain ⟨rfl, k2⟩ := atT_rep hos b tb tb' d xb h2 hb
  exact ⟨rfl, TC.mkpr k1 k2 l1 l2⟩
theorem ArgsRep.after {g1 g2 : Gh} {i : Nat} (hl : Le g1 w g2 w) (hh : ∀ r, g2.hdr none r = g1.hdr none r) (ho : ∀ b r, (∀ z, r ≠ [.idx i] ++ z) → g1.own b = some (none, some r) → g2.own b = some (none, some r))
  (hx : ∀ k, (∀ r, g2.hdr (some (extId k)) r = g1.hdr (some (extId k)) r) ∧ g2.base (extId k) = g1.base (extId k)) : ∀ (as : List Arg) (j : Nat) (vs : List Value), i < j → ArgsRep g1 w j as vs → ArgsRep g2 w j as vs
 | [], j, [], _, _ => trivial
 | x :: xs, j, v :: vs, hij, ⟨h1, h2⟩ => by
  refine ⟨?_, ArgsRep.after hl hh ho hx xs (j + 1) vs (by omega) h2⟩
  cases x with
  | val u => obtain ⟨cs, k1, k2⟩ := h1; exact ⟨cs, k1.le hl, k2⟩
  | own m u =>
   obtain ⟨cs, k1, k2⟩ := h1
   exact ⟨cs, ORep.move hl _ _ [.idx j] [.idx j] _ _ ⟨fun q => hh _, fun b q e => ⟨rfl, ho b _ (fun z e' => by simp at e'; omega) e⟩, fun _ => Iff.rfl⟩ k1, k2⟩
  | ext n => exact h1.trans ((hx n).1 []).symm
  | adr n => exact h1.trans (by rw [(hx n).2])
  | cst u => exact TRep1.le (sg := fun _ => none) (sg' := fun _ => none) hl (.saddr u) _ (fun id h => by simp [TV.looks] at h) h1
  | fn f ns =>
   have : ((ns.map extId).map fun i => Value.pointer (some (g2.base i))) = (ns.map extId).map fun i => Value.pointer (some (g1.base i)) :=
    List.map_congr_left fun i hi => by
     obtain ⟨k, _, rfl⟩ := List.mem_map.1 hi
     rw [(hx k).2]
   simp only [ArgRep, FnVal] at h1 ⊢
   rw [this]; exact h1
  | nilfn => exact h1
  | str T => obtain ⟨t, cs, k1, k2⟩ := h1; exact ⟨t, cs, ATC.after hl (fun k r => (hx k).1 r) T t cs k1, k2⟩
theorem ext_ne {d j k : Nat} (hd : d < 1000000) : extId k ≠ (d, j) := by
 intro e
 simp only [extId, Prod.mk.injEq] at e
 omega
theorem entryObs_get : ∀ (l : List Ob) (k : Nat) (s : St) (j : Nat) (o : Ob), (entryObs k l s).obj (extId (k + j)) = some o → (∀ i, k ≤ i → s.obj (extId i) = none) → l[j]? = some o
 | [], k, s, j, o, h, hn => by rw [show (entryObs k [] s) = s from rfl, hn _ (by omega)] at h; cases h
 | x :: l, k, s, 0, o, h, hn => by
  have : ∀ (l : List Ob) (k' : Nat) (s : St), k < k' → (entryObs k' l s).obj (extId k) = s.obj (extId k) := by
   intro l
   induction l with
   | nil => intro _ _ _; rfl
   | cons y l ih =>
    intro k' s hk
    rw [entryObs, ih _ _ (by omega), put_obj, if_neg (fun e => by have := extId_inj e; omega)]
  rw [Nat.add_zero, entryObs, this l (k + 1) _ (by omega), put_obj, if_pos rfl] at h
  simpa using h
 | x :: l, k, s, j + 1, o, h, hn => by
  have := entryObs_get l (k + 1) (s.put (extId k) x) j o (by rw [show k + 1 + j = k + (j + 1) by omega]; exact h) (fun i hi => by rw [put_obj, if_neg (fun e => by have := extId_inj e; omega)]; exact hn i (by omega))
  simpa using this
theorem entryArgs_sound {os : List Ob} {vals : List Value} (ha : ∀ n v, vals[n]? = some v → a.tmps.getD n undef = v) : ∀ (as : List Arg) (n : Nat) (s : St) (g : Gh), R g0 w0 N s g a w → s.hole = none → ArgsRep g w n as (vals.drop n) → n + as.length ≤ N →
  (∀ k o, s.obj (extId k) = some o → os[k]? = some o) → ∃ g', R g0 w0 N (entryArgs os n as s) g' a w ∧ (entryArgs os n as s).hole = none
 | [], n, s, g, h, hh, hA, hN, hos => ⟨g, h, hh⟩
 | x :: as, n, s, g, h, hh, hA, hN, hos => by
  have hsm := h.small
  simp only [List.length_cons] at hN
  cases hd : vals.drop n with
  | nil => rw [hd] at hA; exact hA.elim
  | cons v rest =>
   rw [hd] at hA
   obtain ⟨h1, h2⟩ := hA
   have hv : a.tmps.getD n undef = v := ha n v (by
    have := congrArg (fun l => l[0]?) hd
    simpa [List.getElem?_drop] using this)
   have hrest : rest = vals.drop (n + 1) := by
    have := congrArg List.tail hd
    simpa [List.tail_drop] using this.symm
   subst hrest
   have plain : ∀ tv, entryArg os n s x = s.set n tv → TRep g w s.sig tv v → ∃ g', R g0 w0 N (entryArgs os n (x :: as) s) g' a w ∧ (entryArgs os n (x :: as) s).hole = none := by
    intro tv e ht
    show ∃ g', R g0 w0 N (entryArgs os (n + 1) as (entryArg os n s x)) g' a w ∧ (entryArgs os (n + 1) as (entryArg os n s x)).hole = none
    rw [e]
    exact entryArgs_sound ha as (n + 1) _ g (h.tell (by rw [hv]; exact ht)) hh h2 (by omega) hos
   have stay : entryArg os n s x = s → ∃ g', R g0 w0 N (entryArgs os n (x :: as) s) g' a w ∧ (entryArgs os n (x :: as) s).hole = none := by
    intro e
    show ∃ g', R g0 w0 N (entryArgs os (n + 1) as (entryArg os n s x)) g' a w ∧ (entryArgs os (n + 1) as (entryArg os n s x)).hole = none
    rw [e]
    exact entryArgs_sound ha as (n + 1) _ g h hh h2 (by omega) hos
   cases x with
   | val u => exact plain _ rfl h1
   | own m u =>
    obtain ⟨cs, k1, k2⟩ := h1
    obtain ⟨g1, a1, a2, a3, a4, a5, a6⟩ := bring_sound (d := n) (by omega) m u.t u.x 0 s g [.idx n] cs h hh k1
    have hx : ∀ k, (∀ r, g1.hdr (some (extId k)) r = g.hdr (some (extId k)) r) ∧ g1.base (extId k) = g.base (extId k) := fun k =>
     have f := a6.ids (extId k) (fun j _ => ext_ne (by omega))
     ⟨f.hdr, f.base⟩
    refine entryArgs_sound ha as (n + 1) _ g1 (a1.tell (by rw [hv, k2]; exact a4.rep1.rep)) a2 (ArgsRep.after a6.le a6.hdr a6.own hx as (n + 1) _ (by omega) h2) (by omega) (fun k o e => ?_)
    -- objects from without stay
    have : ∀ (m : Mask) (t : Ty) (x : t.den) (j : Nat) (s : St), (bring n m t x j s).2.2.obj (extId k) = some o → s.obj (extId k) = some o := by
     intro m t
     induction t generalizing m with
     | prod ta tb ia ib =>
      intro x j s e
      cases m with
      | prod ma mb => simp only [bring] at e; exact ia ma x.1 j s (ib mb x.2 _ _ e)
      | _ => exact e
     | list t _ =>
      intro x j s e
      cases m with
      | own m =>
       simp only [bring, St.new, put_obj, if_neg (ext_ne (k := k) (j := j) (show n < 1000000 by omega))] at e
       simp only [St.purge] at e
       cases hb : Ob.holds (n, j) (s.obj (extId k)) <;> simp [hb] at e
       exact e
      | _ => exact e
     | _ => intro x j s e; cases m <;> exact e
    exact hos k o (this m u.t u.x 0 s e)
   | ext k =>
    cases ho : os[k]? with
    | none => exact stay (by simp [entryArg, ho])
    | some o =>
     cases o with
     | vec m t xs =>
      refine plain (.ref (extId k) []) (by simp only [entryArg, ho]) ⟨.list t, [g.hdr (some (extId k)) []], ⟨rfl, fun sg hsg => ?_⟩, h1⟩
      simp only [St.sig] at hsg
      cases hob : s.obj (extId k) with
      | none => simp [hob] at hsg
      | some o =>
       have := hos k o hob
       rw [ho] at this
       injection this with this
       subst this
       simp only [hob, Option.map_some, Option.some.injEq] at hsg
       subst hsg
       exact ⟨rfl, .inl ⟨rfl, t, rfl⟩⟩
     | box m v => exact stay (by simp [entryArg, ho])
     | fbox f => exact stay (by simp [entryArg, ho])
   | adr k =>
    have go : (∀ m t xs, os[k]? ≠ some (.vec m t xs)) → TRep g w s.sig (.addr (extId k) []) v := fun hno => ⟨_, h1, fun sg hsg => by
     simp only [St.sig] at hsg
     cases hob : s.obj (extId k) with
     | none => simp [hob] at hsg
     | some o =>
      have := hos k o hob
      simp only [hob, Option.map_some, Option.some.injEq] at hsg
      subst hsg
      cases o with
      | vec m t xs => exact absurd this (hno m t xs)
      | box m v => simp [Ob.sig, AddrRoot, AddrOf]
      | fbox f => exact ⟨rfl, rfl⟩⟩
    cases ho : os[k]? with
    | none => exact plain (.addr (extId k) []) (by simp only [entryArg, ho]) (go (by simp [ho]))
    | some o =>
     cases o with
     | vec m t xs => exact stay (by simp [entryArg, ho])
     | box m v => exact plain (.addr (extId k) []) (by simp only [entryArg, ho]) (go (by simp [ho]))
     | fbox f => exact plain (.addr (extId k) []) (by simp only [entryArg, ho]) (go (by simp [ho]))
   | cst u =>
    refine plain _ rfl ?_
    obtain ⟨ad, cs, q⟩ := h1
    exact ⟨ad, cs, q⟩
   | fn f ns => exact plain _ rfl h1
   | nilfn => exact plain _ rfl h1
   | str T =>
    obtain ⟨t, cs, k1, k2⟩ := h1
    cases hx : atT os T with
    | none => exact stay (by simp [entryArg, hx])
    | some y =>
     obtain ⟨t', x⟩ := y
     obtain ⟨_, k3⟩ := atT_rep hos T t t' cs x k1 hx
     exact plain x (by simp only [entryArg, hx]) (by rw [k2]; exact k3.rep1.rep)
end
end Go.Ve
namespace Go.Ve
open Go Go.RowKit
def OSh.mask : OSh → Option Mask
 | .box m _ => some m
 | .vec m _ => some (.own m)
 | .fbox _ => none
section
variable {P : Program} {g0 : Gh} {w0 : Fra} {N : Nat} {s : St} {g : Gh} {a : Act} {w : World}
def resIs (P : Program) (r : RS) (a : Act) (w : World) (v : Value) : Prop := match r.cell with
 | none => a.tmps.getD r.n undef = v
 | some T => ∃ ad, a.tmps.getD r.n undef = .pointer (some ad) ∧ (loadVar T ad).run P w = .ok v w
def cellsB (tab : Tab) (l : List RS) : Bool := l.all fun r => match r.cell with
 | none => true
 | some T => match tab.ti T with
  | some i => decide (i.ty = r.t)
  | none => false
def RawRes (P : Program) (g : Gh) (w : World) (a : Act) : Nat → (l : List RS) → resP l → List Value → Prop
 | _, [], _, [] => True
 | i, r :: l, p, v :: vs => (∃ m' cs, m'.meet r.m = r.m ∧ ORep g w none none r.t m' [.idx i] p.1 cs ∧ v = wrap r.t cs ∧ resIs P r a w v) ∧ RawRes P g w a (i + 1) l p.2 vs
 | _, _, _, _ => False
theorem run_loadVar {tab : Tab} (ht : TabOk P tab) {T : TypeId} {i : TI} (hi : tab.ti T = some i) {ad : Addr} {cs : List Value} (hc : cellsAt w ad cs) (hl : cs.length = i.ty.size) : (loadVar T ad).run P w = .ok (wrap i.ty cs) w := by
 have k := run_load_cells (P := P) ht hi hc hl
 have hk := (ht T i hi).kind
 have hu : ∃ td, P.underlying T = some td := by
  split at hk
  · exact ⟨_, hk⟩
  · exact ⟨_, hk⟩
  · exact ⟨_, hk⟩
  · obtain ⟨_, _, _, k, _⟩ := hk; exact ⟨_, k⟩
  · rcases hk with ⟨_, _, _, _, k, _⟩ | ⟨_, _, k, _⟩ <;> exact ⟨_, k⟩
  · exact hk.elim
 simpa [Instr.loadAt, Instr.sureAddr] using k
theorem resE_sound {tab : Tab} (ht : TabOk P tab) : ∀ (l : List RS) (i : Nat) (s s' : St) (g : Gh) (p : resP l), cellsB tab l = true → resE l s = some (p, s') → R g0 w0 N s g a w → ∃ g' vs, R g0 w0 N s' g' a w ∧ Calm g g' w s s' i ∧ RawRes P g' w a i l p vs
 | [], i, s, s', g, p, hb, he, h => by
  simp only [resE, Option.some.injEq, Prod.mk.injEq] at he
  obtain ⟨_, rfl⟩ := he
  exact ⟨g, [], h, ⟨Le.refl _ _, fun _ _ _ => rfl, fun _ _ _ _ e => e, fun _ => rfl, fun _ _ => rfl, fun _ _ e => e⟩, trivial⟩
 | r :: l, i, s, s', g, p, hb, he, h => by
  simp only [cellsB, List.all_cons, Bool.and_eq_true] at hb
  simp only [resE] at he
  split at he <;> try (cases he; done)
  rename_i m' v s1 htk
  cases hc : m'.covers r.m
  · simp [hc] at he
  · simp only [hc, cond_true] at he
    split at he <;> try (cases he; done)
    rename_i x hx
    split at he <;> try (cases he; done)
    rename_i p1 s2 hrec
    simp only [Option.some.injEq, Prod.mk.injEq] at he
    obtain ⟨rfl, rfl⟩ := he
    have e := castTo_some hx
    subst e
    have key : ∃ g1 cs, resIs P r a w (wrap r.t cs) ∧ R g0 w0 N s1 g1 a w ∧ ORep g1 w none none r.t m' [.idx i] x cs ∧ Le g w g1 w ∧ Float g g1 [.idx i] ∧ (∀ id o, s1.obj id = some o → s.obj id = some o) := by
     unfold resTake at htk
     split at htk
     · rename_i hcell
       obtain ⟨g1, cs, f1, f2, f3, f4, f5, f6⟩ := take_rep h (h.tmps r.n) htk [.idx i]
       exact ⟨g1, cs, by simp only [resIs, hcell]; exact f1, f2, f3, f4, f5, f6⟩
     · rename_i T hcell
       split at htk <;> try (cases htk; done)
       rename_i id hv
       split at htk <;> try (cases htk; done)
       rename_i mo vo ho
       cases hf : s.free id
       · simp [hf] at htk
       · simp only [hf, cond_true, Option.some.injEq, Prod.mk.injEq] at htk
         obtain ⟨rfl, rfl, rfl⟩ := htk
         obtain ⟨cs, b1, b2, b3, b4, b5⟩ := take_box h ho hf [.idx i]
         have hb1 := hb.1
         simp only [hcell] at hb1
         split at hb1 <;> try (cases hb1; done)
         rename_i ti hti
         have hb1 := of_decide_eq_true hb1
         have hp := h.tmps r.n
         rw [hv] at hp
         obtain ⟨ad, p1, p2⟩ := hp
         have p3 := p2 (.box r.t) (by simp [St.sig, ho, Ob.sig])
         simp only [AddrRoot, AddrOf] at p3
         subst p3
         refine ⟨_, cs, ?_, b1, b2, b4, b5, fun j o e => (purge_drop.2 j o e).1⟩
         simp only [resIs, hcell]
         refine ⟨_, p1, ?_⟩
         have := run_loadVar (P := P) ht hti b3 (by rw [hb1]; exact b2.len)
         rw [hb1] at this
         exact this
    obtain ⟨g1, cs, f1, f2, f3, f4, f5, f6⟩ := key
    have c1 : Calm g g1 w s s1 i := ⟨f4, fun j z hj => f5.hdr _ (fun z' e => by simp at e; omega), fun b j z hj e => f5.own b _ (fun z' e => by simp at e; omega) e, f5.base, f5.all, f6⟩
    obtain ⟨g2, vs, k1, k2, k3⟩ := resE_sound ht l (i + 1) s1 s2 g1 p1 hb.2 hrec f2
    exact ⟨g2, _ :: vs, k1, c1.trans k2 (by omega), ⟨m', cs, covers_meet hc, k2.float (by omega) f3, rfl, f1⟩, k3⟩
theorem RawRes.thin {M : Id → Option Mask} {nl : Id → Bool} {F : Nat → Option Mask} : ∀ (l : List RS) (i : Nat) (p : resP l) (vs : List Value), RawRes P g w a i l p vs → (∀ j x, l[j]? = some x → F (i + j) = some x.m) → RessRep (g.thin M nl F) w i (resV l p) vs
 | [], i, p, [], h, _ => trivial
 | r :: l, i, p, v :: vs, ⟨⟨m', cs, h1, h2, h3, _⟩, h⟩, hF =>
  ⟨⟨cs, ORep.thin thin_le r.t m' r.m [.idx i] _ cs h1 (thin_float (hF 0 _ rfl)) h2, h3⟩, RawRes.thin l (i + 1) p.2 vs h fun j x e => by rw [show i + 1 + j = i + (j + 1) by omega]; exact hF (j + 1) x (by simpa using e)⟩
def rvOf (r : RS) : ResultVar := match r.cell with
 | none => .tmp r.n
 | some T => .cell r.n T
def AllIs (P : Program) (a : Act) (w : World) : List RS → List Value → Prop
 | [], [] => True
 | r :: l, v :: vs => resIs P r a w v ∧ AllIs P a w l vs
 | _, _ => False
theorem RawRes.all : ∀ (l : List RS) (i : Nat) (p : resP l) (vs : List Value), RawRes P g w a i l p vs → AllIs P a w l vs
 | [], i, p, [], h => trivial
 | r :: l, i, p, v :: vs, ⟨⟨m', cs, h1, h2, h3, h4⟩, h⟩ => ⟨h4, RawRes.all l (i + 1) p.2 vs h⟩
theorem obE_get : ∀ (l : List (Id × OSh)) (q : obP l), obE s l = some q → (obV l q).length = l.length ∧ ∀ (j : Nat) (id : Id) (sh : OSh), l[j]? = some (id, sh) → ∃ o0 o1, s.obj id = some o0 ∧ (obV l q)[j]? = some o1 ∧ Weak o0 o1 ∧ o1.sig = sh.sig ∧ (∀ m v, o1.root = some (m, v) → sh.mask = some m) ∧ ((∃ f, o1 = .fbox f) → sh.mask = none)
 | [], q, h => ⟨rfl, fun j id sh e => by simp at e⟩
 | (id, .box m t) :: l, q, h => by
  simp only [obE] at h
  split at h <;> try (cases h; done)
  rename_i m' v hob
  cases hc : m'.covers m
  · simp [hc] at h
  · simp only [hc, cond_true] at h
    split at h <;> try (cases h; done)
    rename_i x hx
    split at h <;> try (cases h; done)
    rename_i q1 hq
    simp only [Option.some.injEq] at h
    subst h
    have e := castTo_some hx
    subst e
    obtain ⟨k1, k2⟩ := obE_get l q1 hq
    refine ⟨by simp [obV, k1], fun j id' sh e => ?_⟩
    cases j with
    | zero => simp at e; obtain ⟨rfl, rfl⟩ := e; exact ⟨_, _, hob, rfl, .box (covers_meet hc), rfl, fun m v e => by simp [Ob.root] at e; simp [OSh.mask, e.1], fun ⟨f, e⟩ => by cases e⟩
    | succ j => exact k2 j id' sh (by simpa using e)
 | (id, .vec m t) :: l, q, h => by
  simp only [obE] at h
  split at h <;> try (cases h; done)
  rename_i m' t' xs hob
  cases hc : m'.covers m
  · simp [hc] at h
  · simp only [hc, cond_true] at h
    split at h <;> try (cases h; done)
    rename_i ys hys
    split at h <;> try (cases h; done)
    rename_i q1 hq
    simp only [Option.some.injEq] at h
    subst h
    have e := castTo_some hys
    injection e with e1 e2
    injection e1 with e1
    subst e1
    have e2 := eq_of_heq e2
    subst e2
    obtain ⟨k1, k2⟩ := obE_get l q1 hq
    refine ⟨by simp [obV, k1], fun j id' sh e => ?_⟩
    cases j with
    | zero => simp at e; obtain ⟨rfl, rfl⟩ := e; exact ⟨_, _, hob, rfl, .vec (covers_meet hc), rfl, fun m v e => by simp [Ob.root] at e; simp [OSh.mask, e.1], fun ⟨f, e⟩ => by cases e⟩
    | succ j => exact k2 j id' sh (by simpa using e)
 | (id, .fbox f) :: l, q, h => by
  have main : ∀ q1, obE s l = some q1 → q = q1 → s.obj id = some (.fbox f) → (obV ((id, OSh.fbox f) :: l) q).length = l.length + 1 ∧ ∀ (j : Nat) (id' : Id) (sh : OSh), ((id, OSh.fbox f) :: l)[j]? = some (id', sh) → ∃ o0 o1, s.obj id' = some o0 ∧ (obV ((id, OSh.fbox f) :: l) q)[j]? = some o1 ∧ Weak o0 o1 ∧ o1.sig = sh.sig ∧ (∀ m v, o1.root = some (m, v) → sh.mask = some m) ∧ ((∃ f, o1 = .fbox f) → sh.mask = none) := by
   rintro q1 hq rfl hob
   obtain ⟨k1, k2⟩ := obE_get l q hq
   refine ⟨by simp [obV, k1], fun j id' sh e => ?_⟩
   cases j with
   | zero => simp at e; obtain ⟨rfl, rfl⟩ := e; exact ⟨_, _, hob, rfl, .fbox, rfl, fun m v e => by simp [Ob.root] at e, fun _ => rfl⟩
   | succ j => exact k2 j id' sh (by simpa using e)
  simp only [obE] at h
  split at h <;> try (cases h; done)
  rename_i f' hob
  cases f with
  | none =>
   cases f' with
   | none => exact main q h rfl hob
   | some f' => cases h
  | some f =>
   cases f' with
   | none => cases h
   | some f' =>
    simp only at h
    cases hc : sameFn f f'
    · simp [hc] at h
    · simp only [hc, cond_true] at h
      have e := sameFn_eq hc
      subst e
      exact main q h rfl hob
theorem extObs_get : ∀ (l : List OSh) (k j : Nat) (sh : OSh), l[j]? = some sh → (extObs k l)[j]? = some (extId (k + j), sh)
 | [], k, j, sh, h => by simp at h
 | x :: l, k, 0, sh, h => by simp at h; subst h; rfl
 | x :: l, k, j + 1, sh, h => by
  have := extObs_get l (k + 1) j sh (by simpa using h)
  rw [show k + (j + 1) = k + 1 + j by omega]
  simpa [extObs] using this
theorem extObs_len : ∀ (l : List OSh) (k : Nat), (extObs k l).length = l.length
 | [], k => rfl
 | x :: l, k => by simp [extObs, extObs_len l (k + 1)]
theorem one_is {r : RS} {v : Value} (h : resIs P r a w v) : (∃ t, rvOf r = .tmp t ∧ a.tmps[t]?.getD undef = v) ∨ ∃ n T ad, rvOf r = .cell n T ∧ a.tmps[n]?.getD undef = .pointer (some ad) ∧ (loadVar T ad).run P w = .ok v w := by
 unfold resIs at h
 unfold rvOf
 cases hc : r.cell with
 | none => simp only [hc] at h; exact .inl ⟨_, rfl, by rw [← h, Array.getD_eq_getD_getElem?]⟩
 | some T =>
  simp only [hc] at h
  obtain ⟨ad, h1, h2⟩ := h
  exact .inr ⟨_, _, ad, rfl, by rw [← h1, Array.getD_eq_getD_getElem?], h2⟩
theorem results_gen {fn : Func} (l : List RS) (vs : List Value) (h : fn.results = (l.map rvOf).toArray) : AllIs P a w l vs → (results fn a.tmps).run P w = .ok (match vs with
  | [x] => x
  | l => .tuple l.toArray) w := by
 intro ha
 have key : ∀ (l : List RS) (vs : List Value), AllIs P a w l vs → ((l.map rvOf).mapM (m := Sem) fun
  | .tmp t => pure (a.tmps.getD t undef)
  | .cell b t => do loadVar t (← asAddr (a.tmps.getD b undef))).run P w = .ok vs w := by
  intro l
  induction l with
  | nil => intro vs h; cases vs with
   | nil => simp
   | cons _ _ => exact h.elim
  | cons x l ih =>
   intro vs h
   cases vs with
   | nil => exact h.elim
   | cons v vs =>
    obtain ⟨h0, h1⟩ := h
    have e := ih vs h1
    rw [List.map_cons, List.mapM_cons]
    generalize List.mapM (m := Sem) _ (List.map rvOf l) = B at e ⊢
    rcases one_is h0 with ⟨t0, e0, q0⟩ | ⟨t0, T0, d0, e0, q0, r0⟩
    · simp [e0, q0, e]
    · simp [e0, q0, r0, asAddr, e]
 have k := key l vs ha
 unfold results
 rw [h, List.mapM_toArray]
 generalize List.mapM (m := Sem) _ (List.map rvOf l) = B at k ⊢
 simp [k]
 match vs with
 | [] => simp
 | [x] => simp
 | x :: y :: l => simp
structure FnAt (P : Program) (f : FuncId) (fn : Func) (c : Code) (N : Nat) (F : End) : Prop where
 func : P.funcs[f]? = some fn
 name : (fn.name == "runtime.NumGoroutine") = false
 body : fn.body = some c
 tmps : fn.ntmps = N
 small : N ≤ 1000000
 res : fn.results = (F.rs.map rvOf).toArray
 few : F.rs.length ≤ 16
theorem finS_sound {tab : Tab} (ht : TabOk P tab) {F : End} {p : F.P} (hcb : cellsB tab F.rs = true) (h : R g0 w0 N s g a w) (hf : finS F s = some p) : ∃ g' vs, w0.ok g' w ∧ (∀ b o, g'.own b = some o → b < w.heap.size) ∧ RessRep g' w 0 (resV F.rs p.1) vs ∧ AllIs P a w F.rs vs ∧ (obV (extObs 0 F.os) p.2).length = F.os.length ∧
  ∀ k sh o', F.os[k]? = some sh → (obV (extObs 0 F.os) p.2)[k]? = some o' → o'.sig = sh.sig ∧ RootRep g' w none (extId k) o' ∧ g'.base (extId k) = g0.base (extId k) ∧ ((∃ u, sh.sig = .vec u) → g'.hdr (some (extId k)) [] = g0.hdr (some (extId k)) []) := by
 unfold finS at hf
 split at hf <;> try (cases hf; done)
 rename_i p1 s1 h1
 cases hh : holeOk s1
 · simp [hh] at hf
 · simp only [hh, cond_true] at hf
   split at hf <;> try (cases hf; done)
   rename_i q hq
   simp only [Option.some.injEq] at hf
   subst hf
   obtain ⟨g1, vs, k1, k2, k3⟩ := resE_sound ht F.rs 0 s s1 g p1 hcb h1 h
   obtain ⟨l1, l2⟩ := obE_get _ q hq
   let M : Id → Option Mask := fun id => if id = extId (id.1 - 1000000) then (F.os[id.1 - 1000000]?).bind OSh.mask else none
   have hM : ∀ k, M (extId k) = (F.os[k]?).bind OSh.mask := fun k => by
    have : (extId k).1 - 1000000 = k := by simp [extId]
    simp only [M, this, if_true]
   refine ⟨g1.thin M (fun _ => false) (fun i => (F.rs[i]?).map RS.m), vs, k1.frame.trans thin_le, thin_lives k1.lives, RawRes.thin F.rs 0 p1 vs k3 (fun j x e => by simp [e]), RawRes.all F.rs 0 p1 vs k3, by simp [l1, extObs_len], fun k sh o' e1 e2 => ?_⟩
   obtain ⟨o0, o1, q1, q2, q3, q4, q5, q6⟩ := l2 k _ sh (extObs_get F.os 0 k sh e1)
   rw [Nat.zero_add] at q1
   rw [e2] at q2
   injection q2 with q2
   subst q2
   have hob := k1.objs _ _ q1
   have hnl : ∀ p, (none : Option (RId × List Step)) = some (some (extId k), p) ↔ s1.hl = some (some (extId k), p) := fun p => by
    constructor
    · intro e; cases e
    · intro e
      exfalso
      simp only [St.hl] at e
      cases he : s1.hole with
      | none => simp [he] at e
      | some x =>
       obtain ⟨i, z⟩ := x
       simp only [he, Option.map_some, Option.some.injEq, Prod.mk.injEq] at e
       simp only [holeOk, he, Nat.blt_eq] at hh
       have := congrArg Prod.fst e.1
       simp only [extId] at this
       omega
   have hob := RootRep.same (Le.refl _ _) (Same.refl _ _ _) hnl _ (fun _ _ _ _ => rfl) hob
   have hx := k1.ext _ _ q1 (by simp [extId])
   have hMk : M (extId k) = sh.mask := by rw [hM, e1]; rfl
   refine ⟨q4, RootRep.thin q3 (fun m v e => by rw [hMk]; exact q5 m v e) (fun e => by rw [hMk]; exact q6 e) rfl hob, hx.1, fun hu => ?_⟩
   rw [thin_hdr rfl]
   exact hx.2 (by rw [← q3.sig, q4]; exact hu)
theorem contract_run {f : FuncId} {fn : Func} {c : Code} {F : End} {cx : Cx} {an : Ann} {as : List Arg} {os : List Ob} (hfn : FnAt P f fn c N F) (hlen : as.length ≤ N) (hP : P.follows .mixedOrders = true) (hB : annB N c an = true) (hL : Rounds cx c an True) (ht : TabOk' P cx.tab) (hcb : cellsB cx.tab F.rs = true) (henv : EnvOk P cx.env)
  (hsig : os.map Ob.sig = F.os.map OSh.sig) {p : F.P} (h : run cx c an (entry as os) (fin F) = some p) : Contract P f as os (pack F p).1 (pack F p).2 := by
 refine ⟨⟨fn, c, hfn.func, hfn.name, hfn.body⟩, fun g w vals hlv hargs hobs => ?_⟩
 have hal : ∀ (as : List Arg) (i : Nat) (vs : List Value), ArgsRep g w i as vs → as.length = vs.length := by
  intro as
  induction as with
  | nil => intro i vs h; cases vs with | nil => rfl | cons _ _ => exact h.elim
  | cons x as ih => intro i vs h; cases vs with | nil => exact h.elim | cons v vs => simp [ih _ _ h.2]
 have hl := hal _ _ _ hargs
 have hb := R.begin (N := N) (vals := vals.toList) hlv (by omega) hfn.small hobs
 obtain ⟨g1, k1, k2⟩ := entryArgs_sound (os := os) (vals := vals.toList) (fun n v e => by
  have hn : n < vals.toList.length := (List.getElem?_eq_some_iff.1 e).1
  have hn' : n < vals.size := by simpa using hn
  show (vals.toList.toArray ++ _).getD n undef = v
  rw [Array.getD_eq_getD_getElem?, Array.getElem?_append_left (by simpa using hn')]
  simp at e ⊢
  rw [e]; rfl) as 0 _ g hb (by rw [(entryObs_tmp os 0 St.empty).2]; rfl) (by simpa using hargs) (by omega) (fun k o e => entryObs_get os 0 St.empty k o (by simpa using e) (fun _ _ => rfl))
 refine calls_of_wp hfn.func hfn.body ?_
 have hrun := run_sound (w0 := Fra.at g w) hP ht henv c an _ g1 _ w (fin F) p True hB hL k1 h
 have hact : ({ tmps := vals ++ Array.replicate (fn.ntmps - vals.size) undef, defers := [] } : Act) = { tmps := vals.toList.toArray ++ Array.replicate (N - vals.toList.toArray.size) undef, defers := [] } := by
  simp [hfn.tmps]
 rw [hact]
 refine wp_mono hrun fun e a' w' hq => ?_
 have done : Next g (Fra.at g w) N (finS F) p a' w' → a'.defers = [] ∧ ∃ v, (results fn a'.tmps).run P w' = .ok v w' ∧ ∃ v' g', Ending.returned v = .returned v' ∧ Left g w os (pack F p).1 (pack F p).2 v' g' w' := by
  rintro ⟨s', g', r1, r2⟩
  obtain ⟨g2, vs, q1, q2, q3, q3', q4, q5⟩ := finS_sound ht.data hcb r1 r2
  refine ⟨r1.defers, _, results_gen _ _ hfn.res q3', _, g2, rfl, ⟨q1, q2, ⟨_, q3, rfl⟩, ?_, fun k o o' e1 e2 => ?_⟩⟩
  · have := congrArg List.length hsig
    simp only [List.length_map] at this
    rw [this]; exact q4
  · have hs := congrArg (fun l => l[k]?) hsig
    simp only [List.getElem?_map, e1, Option.map_some] at hs
    cases hsh : F.os[k]? with
    | none => simp [hsh] at hs
    | some sh =>
     simp only [hsh, Option.map_some, Option.some.injEq] at hs
     obtain ⟨z1, z2, z3, z4⟩ := q5 k sh o' hsh e2
     exact ⟨z1.trans hs.symm, z2, z3, fun hu => z4 (by rw [← hs]; exact hu)⟩
 cases e with
 | normal => exact done hq
 | ret => exact done hq
 | exit id => obtain ⟨s', g', r1, r2⟩ := hq; cases r2
 | _ => exact hq.elim
end
end Go.Ve
namespace Go.Ve
open Go Go.RowKit
inductive AS where
 | val (t : Ty) | ref (u : Ty) (n : Nat) (p : List Step) | pr (a b : AS)
@[reducible] def AS.P : AS → Type
 | .val t => t.den
 | .ref _ _ _ => Unit
 | .pr a b => a.P × b.P
def AS.mk : (T : AS) → T.P → AT
 | .val t, x => .val ⟨t, x⟩
 | .ref u n p, _ => .ref u n p
 | .pr a b, x => .pr (a.mk x.1) (b.mk x.2)
def AS.get : (T : AS) → AT → Option T.P
 | .val t, a => match a with
  | .val v => castTo t v
  | _ => none
 | .ref u n p, a => match a with
  | .ref u' n' p' => bif decide (u = u') && (Nat.beq n n' && sameSteps p p') then some () else none
  | _ => none
 | .pr a b, x => match x with
  | .pr y z => match a.get y with
   | some p => match b.get z with
    | some q => some (p, q)
    | none => none
   | none => none
  | _ => none
inductive ASh where
 | val (t : Ty) | own (m : Mask) (t : Ty) | cst (t : Ty) | ext (n : Nat) | adr (n : Nat) | fn (f : FuncId) (ns : List Nat) | nilfn | str (T : AS)
@[reducible] def argP : List ASh → Type
 | [] => Unit
 | .str T :: l => T.P × argP l
 | .val t :: l => t.den × argP l
 | .own _ t :: l => t.den × argP l
 | .cst t :: l => t.den × argP l
 | _ :: l => argP l
def mkArgs : (l : List ASh) → argP l → List Arg
 | [], _ => []
 | .val t :: l, p => .val ⟨t, p.1⟩ :: mkArgs l p.2
 | .own m t :: l, p => .own m ⟨t, p.1⟩ :: mkArgs l p.2
 | .cst t :: l, p => .cst ⟨t, p.1⟩ :: mkArgs l p.2
 | .ext n :: l, p => .ext n :: mkArgs l p
 | .adr n :: l, p => .adr n :: mkArgs l p
 | .fn f ns :: l, p => .fn f ns :: mkArgs l p
 | .nilfn :: l, p => .nilfn :: mkArgs l p
 | .str T :: l, p => .str (T.mk p.1) :: mkArgs l p.2
def sameNats : List Nat → List Nat → Bool
 | [], [] => true
 | a :: l, b :: k => Nat.beq a b && sameNats l k
 | _, _ => false
def getArgs : (l : List ASh) → List Arg → Option (argP l)
 | [], [] => some ()
 | .val t :: l, .val v :: as => match castTo t v with
  | some x => match getArgs l as with
   | some p => some (x, p)
   | none => none
  | none => none
 | .own m t :: l, .own m' v :: as => bif sameMask m m' then match castTo t v with
  | some x => match getArgs l as with
   | some p => some (x, p)
   | none => none
  | none => none
  else none
 | .cst t :: l, .cst v :: as => match castTo t v with
  | some x => match getArgs l as with
   | some p => some (x, p)
   | none => none
  | none => none
 | .ext n :: l, .ext k :: as => bif Nat.beq n k then getArgs l as else none
 | .adr n :: l, .adr k :: as => bif Nat.beq n k then getArgs l as else none
 | .fn f ns :: l, .fn g ks :: as => bif Nat.beq f g && sameNats ns ks then getArgs l as else none
 | .nilfn :: l, .nilfn :: as => getArgs l as
 | .str T :: l, .str a :: as => match T.get a with
  | some x => match getArgs l as with
   | some p => some (x, p)
   | none => none
  | none => none
 | _, _ => none
def getObs : (l : List (Id × OSh)) → List Ob → Option (obP l)
 | [], [] => some ()
 | (_, .box m t) :: l, .box m' v :: os => bif sameMask m m' then match castTo t v with
  | some x => match getObs l os with
   | some p => some (x, p)
   | none => none
  | none => none
  else none
 | (_, .vec m t) :: l, .vec m' t' xs :: os => bif sameMask m m' then match castTo (.list t) ⟨.list t', xs⟩ with
  | some x => match getObs l os with
   | some p => some (x, p)
   | none => none
  | none => none
  else none
 | (_, .fbox (some g)) :: l, .fbox (some h) :: os => bif sameFn g h then getObs l os else none
 | (_, .fbox none) :: l, .fbox none :: os => getObs l os
 | _, _ => none
theorem sameNats_eq : ∀ {l k : List Nat}, sameNats l k = true → l = k
 | [], [], _ => rfl
 | a :: l, b :: k, h => by
  simp only [sameNats, Bool.and_eq_true] at h
  rw [Nat.eq_of_beq_eq_true h.1, sameNats_eq h.2]
 | [], b :: k, h => by simp [sameNats] at h
 | a :: l, [], h => by simp [sameNats] at h
theorem AS.get_eq : ∀ (T : AS) (a : AT) (p : T.P), T.get a = some p → a = T.mk p
 | .val t, a, p, h => by
  cases a <;> simp only [AS.get] at h <;> try (cases h; done)
  have e := castTo_some h
  subst e
  rfl
 | .ref u n q, a, p, h => by
  cases a <;> simp only [AS.get] at h <;> try (cases h; done)
  rename_i u' n' q'
  cases hb : (decide (u = u') && (Nat.beq n n' && sameSteps q q'))
  · simp [hb] at h
  · simp only [Bool.and_eq_true, decide_eq_true_eq] at hb
    rw [AS.mk, hb.1, Nat.eq_of_beq_eq_true hb.2.1, sameSteps_eq hb.2.2]
 | .pr a b, x, p, h => by
  cases x <;> simp only [AS.get] at h <;> try (cases h; done)
  split at h <;> try (cases h; done)
  rename_i y hy
  split at h <;> try (cases h; done)
  rename_i z hz
  simp only [Option.some.injEq] at h
  subst h
  rw [AS.get_eq a _ y hy, AS.get_eq b _ z hz]
  rfl
theorem getArgs_eq : ∀ (l : List ASh) (as : List Arg) (p : argP l), getArgs l as = some p → as = mkArgs l p
 | [], as, p, h => by cases as <;> simp [getArgs] at h; rfl
 | .val t :: l, as, p, h => by
  cases as with
  | nil => simp [getArgs] at h
  | cons a as =>
   cases a <;> simp only [getArgs] at h <;> try (cases h; done)
   split at h <;> try (cases h; done)
   rename_i x hx
   split at h <;> try (cases h; done)
   rename_i q hq
   simp only [Option.some.injEq] at h
   subst h
   have e := castTo_some hx
   subst e
   rw [getArgs_eq l as q hq]
   rfl
 | .own m t :: l, as, p, h => by
  cases as with
  | nil => simp [getArgs] at h
  | cons a as =>
   cases a <;> simp only [getArgs] at h <;> try (cases h; done)
   rename_i m' v
   cases hm : sameMask m m'
   · simp [hm] at h
   · simp only [hm, cond_true] at h
     have := sameMask_eq hm
     subst this
     split at h <;> try (cases h; done)
     rename_i x hx
     split at h <;> try (cases h; done)
     rename_i q hq
     simp only [Option.some.injEq] at h
     subst h
     have e := castTo_some hx
     subst e
     rw [getArgs_eq l as q hq]
     rfl
 | .cst t :: l, as, p, h => by
  cases as with
  | nil => simp [getArgs] at h
  | cons a as =>
   cases a <;> simp only [getArgs] at h <;> try (cases h; done)
   split at h <;> try (cases h; done)
   rename_i x hx
   split at h <;> try (cases h; done)
   rename_i q hq
   simp only [Option.some.injEq] at h
   subst h
   have e := castTo_some hx
   subst e
   rw [getArgs_eq l as q hq]
   rfl
 | .ext n :: l, as, p, h => by
  cases as with
  | nil => simp [getArgs] at h
  | cons a as =>
   cases a <;> simp only [getArgs] at h <;> try (cases h; done)
   rename_i k
   cases hm : Nat.beq n k
   · simp [hm] at h
   · simp only [hm, cond_true] at h
     have := Nat.eq_of_beq_eq_true hm
     subst this
     rw [getArgs_eq l as p h]
     rfl
 | .adr n :: l, as, p, h => by
  cases as with
  | nil => simp [getArgs] at h
  | cons a as =>
   cases a <;> simp only [getArgs] at h <;> try (cases h; done)
   rename_i k
   cases hm : Nat.beq n k
   · simp [hm] at h
   · simp only [hm, cond_true] at h
     have := Nat.eq_of_beq_eq_true hm
     subst this
     rw [getArgs_eq l as p h]
     rfl
 | .fn f ns :: l, as, p, h => by
  cases as with
  | nil => simp [getArgs] at h
  | cons a as =>
   cases a <;> simp only [getArgs] at h <;> try (cases h; done)
   rename_i k ks
   cases hm : (Nat.beq f k && sameNats ns ks)
   · simp [hm] at h
   · simp only [hm, cond_true] at h
     simp only [Bool.and_eq_true] at hm
     have := Nat.eq_of_beq_eq_true hm.1
     subst this
     have := sameNats_eq hm.2
     subst this
     rw [getArgs_eq l as p h]
     rfl
 | .nilfn :: l, as, p, h => by
  cases as with
  | nil => simp [getArgs] at h
  | cons a as =>
   cases a <;> simp only [getArgs] at h <;> try (cases h; done)
   rw [getArgs_eq l as p h]
   rfl
 | .str T :: l, as, p, h => by
  cases as with
  | nil => simp [getArgs] at h
  | cons a as =>
   cases a <;> simp only [getArgs] at h <;> try (cases h; done)
   split at h <;> try (cases h; done)
   rename_i x hx
   split at h <;> try (cases h; done)
   rename_i q hq
   simp only [Option.some.injEq] at h
   subst h
   rw [AS.get_eq T _ x hx, getArgs_eq l as q hq]
   rfl
theorem getObs_eq : ∀ (l : List (Id × OSh)) (os : List Ob) (p : obP l), getObs l os = some p → os = obV l p
 | [], os, p, h => by cases os <;> simp [getObs] at h; rfl
 | (id, .box m t) :: l, os, p, h => by
  cases os with
  | nil => simp [getObs] at h
  | cons a as =>
   cases a <;> simp only [getObs] at h <;> try (cases h; done)
   rename_i m' v
   cases hm : sameMask m m'
   · simp [hm] at h
   · simp only [hm, cond_true] at h
     have := sameMask_eq hm
     subst this
     split at h <;> try (cases h; done)
     rename_i x hx
     split at h <;> try (cases h; done)
     rename_i q hq
     simp only [Option.some.injEq] at h
     subst h
     have e := castTo_some hx
     subst e
     rw [getObs_eq l as q hq]
     rfl
 | (id, .vec m t) :: l, os, p, h => by
  cases os with
  | nil => simp [getObs] at h
  | cons a as =>
   cases a <;> simp only [getObs] at h <;> try (cases h; done)
   rename_i m' t' xs
   cases hm : sameMask m m'
   · simp [hm] at h
   · simp only [hm, cond_true] at h
     have := sameMask_eq hm
     subst this
     split at h <;> try (cases h; done)
     rename_i x hx
     split at h <;> try (cases h; done)
     rename_i q hq
     simp only [Option.some.injEq] at h
     subst h
     have e := castTo_some hx
     injection e with e1 e2
     injection e1 with e1
     subst e1
     have e2 := eq_of_heq e2
     subst e2
     rw [getObs_eq l as q hq]
     rfl
 | (id, .fbox none) :: l, os, p, h => by
  cases os with
  | nil => simp [getObs] at h
  | cons a as =>
   cases a with
   | vec m t xs => simp [getObs] at h
   | box m v => simp [getObs] at h
   | fbox f =>
    cases f with
    | some f => simp [getObs] at h
    | none =>
     simp only [getObs] at h
     rw [getObs_eq l as p h]
     rfl
 | (id, .fbox (some f)) :: l, os, p, h => by
  cases os with
  | nil => simp [getObs] at h
  | cons a as =>
   cases a with
   | vec m t xs => simp [getObs] at h
   | box m v => simp [getObs] at h
   | fbox f' =>
    cases f' with
    | none => simp [getObs] at h
    | some f' =>
     simp only [getObs] at h
     cases hm : sameFn f f'
     · simp [hm] at h
     · simp only [hm, cond_true] at h
       have := sameFn_eq hm
       subst this
       rw [getObs_eq l as p h]
       rfl
theorem obV_sig : ∀ (l : List OSh) (k : Nat) (p : obP (extObs k l)), (obV (extObs k l) p).map Ob.sig = l.map OSh.sig
 | [], k, p => rfl
 | .box m t :: l, k, p => by simp only [extObs, obV, List.map_cons, obV_sig l (k + 1) p.2]; rfl
 | .vec m t :: l, k, p => by simp only [extObs, obV, List.map_cons, obV_sig l (k + 1) p.2]; rfl
 | .fbox f :: l, k, p => by simp only [extObs, obV, List.map_cons]; rw [obV_sig l (k + 1) p]; rfl
theorem mkArgs_len : ∀ (l : List ASh) (p : argP l), (mkArgs l p).length = l.length
 | [], p => rfl
 | .val t :: l, p => by simp [mkArgs, mkArgs_len l p.2]
 | .own m t :: l, p => by simp [mkArgs, mkArgs_len l p.2]
 | .cst t :: l, p => by simp [mkArgs, mkArgs_len l p.2]
 | .ext n :: l, p => by simp [mkArgs, mkArgs_len l p]
 | .adr n :: l, p => by simp [mkArgs, mkArgs_len l p]
 | .fn f ns :: l, p => by simp [mkArgs, mkArgs_len l p]
 | .nilfn :: l, p => by simp [mkArgs, mkArgs_len l p]
 | .str T :: l, p => by simp [mkArgs, mkArgs_len l p.2]
structure Fn where
 f : FuncId
 args : List ASh
 obs : List OSh := []
 res : End
 F : argP args → obP (extObs 0 obs) → Option res.P
def Fn.Says (P : Program) (D : Fn) : Prop := ∀ x y p, D.F x y = some p → Contract P D.f (mkArgs D.args x) (obV (extObs 0 D.obs) y) (pack D.res p).1 (pack D.res p).2
def noEnv : Env := ⟨fun _ _ _ _ _ => none, fun _ => none⟩
def more (e : Env) (D : Fn) : Env where
 made := e.made
 call f as os _ K := bif Nat.beq f D.f then (match getArgs D.args as with
  | some x => match getObs (extObs 0 D.obs) os with
   | some y => match D.F x y with
    | some p => K (pack D.res p)
    | none => none
   | none => e.call f as os K
  | none => e.call f as os K) else e.call f as os K
theorem noEnv_ok {P : Program} : EnvOk P noEnv := ⟨(fun _ _ _ _ _ _ h => nomatch h), (fun _ _ _ h => nomatch h)⟩
def moreMk (e : Env) (f h : FuncId) (T : TypeId) : Env where
 made x := bif Nat.beq x f then some (h, T) else e.made x
 call := e.call
theorem moreMk_ok {P : Program} {e : Env} {f h : FuncId} {T : TypeId} (he : EnvOk P e) (hm : MkOk P f h T) : EnvOk P (moreMk e f h T) := by
 refine ⟨he.1, fun f' h' T' k => ?_⟩
 simp only [moreMk] at k
 cases hf : Nat.beq f' f
 · rw [hf] at k; exact he.2 _ _ _ k
 · rw [hf] at k
   injection k with k
   injection k with k1 k2
   subst k1; subst k2
   rw [Nat.eq_of_beq_eq_true hf]
   exact hm
theorem more_ok {P : Program} {e : Env} {D : Fn} (he : EnvOk P e) (hD : D.Says P) : EnvOk P (more e D) := by
 refine ⟨?_, he.2⟩
 intro f as os α K r h
 unfold more at h
 dsimp only at h
 cases hf : Nat.beq f D.f
 · simp only [hf, cond_false] at h; exact he.1 _ _ _ _ _ h
 · simp only [hf, cond_true] at h
   have := Nat.eq_of_beq_eq_true hf
   subst this
   split at h
   · rename_i x hx
     split at h
     · rename_i y hy
       split at h <;> try (cases h; done)
       rename_i p hp
       have e1 := getArgs_eq _ _ _ hx
       have e2 := getObs_eq _ _ _ hy
       subst e1 e2
       exact ⟨_, _, hD x y p hp, h⟩
     · exact he.1 _ _ _ _ _ h
   · exact he.1 _ _ _ _ _ h
noncomputable def fuelF {A O R : Type} (F : (A → O → Option R) → A → O → Option R) : Nat → A → O → Option R
 | 0 => fun _ _ => none
 | n + 1 => F (fuelF F n)
theorem fuel_says {P : Program} {f : FuncId} {a : List ASh} {o : List OSh} {E : End} {F : (argP a → obP (extObs 0 o) → Option E.P) → argP a → obP (extObs 0 o) → Option E.P}
  (h : ∀ rc, Fn.Says P ⟨f, a, o, E, rc⟩ → Fn.Says P ⟨f, a, o, E, F rc⟩) : ∀ n, Fn.Says P ⟨f, a, o, E, fuelF F n⟩
 | 0 => fun x y p hp => by cases hp
 | n + 1 => h _ (fuel_says h n)
structure Walk (P : Program) (cx : Cx) (D : Fn) (fn : Func) (c : Code) (N : Nat) (an : Ann) : Prop where
 lay : FnAt P D.f fn c N D.res
 len : Nat.ble D.args.length N = true
 cells : cellsB cx.tab D.res.rs = true
 ann : annB N c an = true
 rounds : Rounds cx c an True
 sig : D.obs.map OSh.sig = D.res.os.map OSh.sig
 eqn : ∀ x y, run cx c an (entry (mkArgs D.args x) (obV (extObs 0 D.obs) y)) (fin D.res) = D.F x y
theorem Walk.of {P : Program} {cx : Cx} {D : Fn} {fn : Func} {c : Code} {N : Nat} {an : Ann} (func : P.funcs[D.f]? = some fn) (rounds : Rounds cx c an True) (eqn : ∀ x y, run cx c an (entry (mkArgs D.args x) (obV (extObs 0 D.obs) y)) (fin D.res) = D.F x y)
  (name : (fn.name == "runtime.NumGoroutine") = false := by kernel_rfl) (body : fn.body = some c := by kernel_rfl) (tmps : fn.ntmps = N := by kernel_rfl) (small : Nat.ble N 1000000 = true := by kernel_rfl) (res : fn.results = (D.res.rs.map rvOf).toArray := by kernel_rfl) (few : Nat.ble D.res.rs.length 16 = true := by kernel_rfl)
  (len : Nat.ble D.args.length N = true := by kernel_rfl) (cells : cellsB cx.tab D.res.rs = true := by kernel_rfl) (ann : annB N c an = true := by kernel_rfl) (sig : D.obs.map OSh.sig = D.res.os.map OSh.sig := by kernel_rfl) : Walk P cx D fn c N an :=
 ⟨⟨func, name, body, tmps, Nat.le_of_ble_eq_true small, res, Nat.le_of_ble_eq_true few⟩, len, cells, ann, rounds, sig, eqn⟩
theorem Walk.says {P : Program} {cx : Cx} {D : Fn} {fn : Func} {c : Code} {N : Nat} {an : Ann} (h : Walk P cx D fn c N an) (hP : P.follows .mixedOrders = true) (ht : TabOk' P cx.tab) (henv : EnvOk P cx.env) : D.Says P := by
 intro x y p hp
 refine contract_run h.lay (by rw [mkArgs_len]; exact Nat.le_of_ble_eq_true h.len) hP h.ann h.rounds ht h.cells henv ?_ ((h.eqn x y).trans hp)
 rw [obV_sig]
 exact h.sig
end Go.Ve
namespace Go.Ve
open Go Go.RowKit
theorem mk_ok {P : Program} {f h : FuncId} {T t1 t2 t3 t4 : TypeId} {fn : Func} {i0 i1 : Nat} {p1 p2 p3 p4 : String} {a1 a2 a3 a4}
  (hfn : P.funcs[f]? = some fn) (hname : (fn.name == "runtime.NumGoroutine") = false)
  (hbody : fn.body = some (.seq (.region i0 #[⟨some 1, .box T (.tmp 0), t1, p1, a1, none⟩, ⟨some 2, .assign (.const .nilFunc), t2, p2, a2, none⟩] false)
   (.seq (.region i1 #[⟨some 3, .makeFunc (.func h) #[] #[.tmp 1], t3, p3, a3, none⟩, ⟨some 2, .assign (.tmp 3), t4, p4, a4, none⟩] false) .ret)))
  (hn : fn.ntmps = 4) (hres : fn.results = #[.tmp 2]) : MkOk P f h T := by
 refine ⟨⟨fn, _, hfn, hname, hbody⟩, fun v mv w w' hbox => calls_of_wp hfn hbody ?_⟩
 have hr : ∀ (t : Array Value) (W : World), (results fn t).run P W = .ok (t.getD 2 undef) W := by
  intro t W
  simp [results, hres]
 rw [hn]
 refine wp_seq (wp_region ?_)
 simp only [List.size_toArray, List.length_cons, List.length_nil, Nat.reduceAdd, List.range_succ, List.range_zero, List.nil_append, List.cons_append, wpOps]
 simp [Region.wanted, Oper.wp, Oper.upon, execOp, Act.eval, hbox, Act.put, Exit.then]
 refine .inl ?_
 refine .inl ?_
 refine wp_seq (wp_region ?_)
 simp only [List.size_toArray, List.length_cons, List.length_nil, Nat.reduceAdd, List.range_succ, List.range_zero, List.nil_append, List.cons_append, wpOps]
 simp [Region.wanted, Oper.wp, Oper.upon, execOp, Act.eval, Act.put, Exit.then, Instr.makeFunc]
 refine .inl ?_
 refine .inl ?_
 refine wp_ret ?_
 simp [bodyPost, hr]
end Go.Ve
namespace Go.Ve
open Go Go.RowKit
abbrev I : Ty := .int .i64
def w64 (x : Int) : Int := IntKind.wrap .i64 x
def inb (j : Int) (n : Nat) : Bool := decide (0 ≤ j) && decide (j < (n : Int))
def bodyOf (f : Func) : Code := f.body.getD .skip
def subc : List Nat → Code → Code
 | [], c => c
 | i :: l, .seq a b => match i with
  | 0 => subc l a
  | _ => subc l b
 | i :: l, .cond _ a b => match i with
  | 0 => subc l a
  | _ => subc l b
 | _ :: l, .block _ c => subc l c
 | _ :: l, .loop c => subc l c
 | _, c => c
theorem kcast {a b : Prop} (h : a = b) (x : b) : a := h ▸ x
section
variable {P : Program} {tab : Tab} {T : TypeId} {i : TI}
theorem ti_info (h : (P.info? T).map (fun ti => (ti.size, ti.zero)) = some (i.ty.size, some (wrap i.ty (zeroCells i.ty)))) : ∃ ti, P.info? T = some ti ∧ ti.size = i.ty.size ∧ ti.zero = some (wrap i.ty (zeroCells i.ty)) := by
 cases e : P.info? T with
 | none => simp [e] at h
 | some ti =>
  simp only [e, Option.map_some, Option.some.injEq, Prod.mk.injEq] at h
  exact ⟨ti, rfl, h.1, h.2⟩
theorem ti_int {k : IntKind} {n b : Nat} {q : Bool} (h : (P.info? T).map (fun ti => (ti.size, ti.zero)) = some (1, some (wrap (.int k) (zeroCells (.int k))))) (hu : P.underlying T = some (.int k)) : TiOk P tab T ⟨.int k, n, b, q⟩ :=
 ⟨ti_info h, Nat.one_pos, .inr rfl, hu, fun e => by cases e⟩
theorem ti_bool {n b : Nat} {q : Bool} (h : (P.info? T).map (fun ti => (ti.size, ti.zero)) = some (1, some (wrap .bool (zeroCells .bool)))) (hu : P.underlying T = some .bool) : TiOk P tab T ⟨.bool, n, b, q⟩ :=
 ⟨ti_info h, Nat.one_pos, .inr rfl, hu, fun e => by cases e⟩
theorem ti_str {n b : Nat} {q : Bool} (h : (P.info? T).map (fun ti => (ti.size, ti.zero)) = some (1, some (wrap .str (zeroCells .str)))) (hu : P.underlying T = some .string) : TiOk P tab T ⟨.str, n, b, q⟩ :=
 ⟨ti_info h, Nat.one_pos, .inr rfl, hu, fun e => by cases e⟩
theorem ti_list {E : TypeId} {e : Ty} {n b : Nat} {q : Bool} {ie : TI} (h : (P.info? T).map (fun ti => (ti.size, ti.zero)) = some (1, some (.slice none 0 0))) (hu : P.underlying T = some (.slice E)) (hE : tab.ti E = some ie) (he : ie.ty = e)
  (hb : (P.info? E).map (·.bytes) = some b) (h0 : Nat.blt 0 b = true) : TiOk P tab T ⟨.list e, n, b, q⟩ := by
 refine ⟨ti_info h, Nat.one_pos, .inr rfl, ?_, fun e => by cases e⟩
 cases ei : P.info? E with
 | none => simp [ei] at hb
 | some ti =>
  simp only [ei, Option.map_some, Option.some.injEq] at hb
  exact ⟨E, ie, ti, hu, hE, he, ei, hb, by simpa [Nat.blt_eq] using h0⟩
def prodB (P : Program) (T : TypeId) (t : Ty) : Bool := Nat.ble t.deep 9999 && !P.stoodInHeld T && !P.eqGuardType P.depth T
theorem ti_arr {E : TypeId} {e : Ty} {b : Nat} {ie : TI} (h : (P.info? T).map (fun ti => (ti.size, ti.zero)) = some (e.size + e.size, some (wrap (.prod e e) (zeroCells (.prod e e))))) (hu : P.underlying T = some (.array 2 E)) (hE : tab.ti E = some ie) (he : ie.ty = e)
  (hs : Nat.blt 0 e.size = true) (hp : prodB P T (.prod e e) = true) : TiOk P tab T ⟨.prod e e, 2, b, true⟩ := by
 simp only [prodB, Bool.and_eq_true, Bool.not_eq_true'] at hp
 exact ⟨ti_info h, by have := Nat.blt_eq.mp hs; show 0 < e.size + e.size; omega, .inl (Nat.le_refl 2), .inl ⟨rfl, rfl, E, ie, hu, hE, he, rfl⟩,
  fun _ => ⟨Nat.le_of_ble_eq_true hp.1.1, hp.1.2, hp.2, fun fs hf => by rw [hu] at hf; cases hf⟩⟩
def fieldsB (tab : Tab) (n : Nat) (t : Ty) (fs : Array Field) : Bool := Nat.beq fs.size n && fs.toList.zipIdx.all fun x => match tab.ti x.1.type with
 | some fi => (match compTy n x.2 t with
  | some u => decide (u = fi.ty)
  | none => false) && Nat.beq x.1.offset (compOff n x.2 t) && !(x.1.name == "_")
 | none => false
theorem ti_struct {fs : Array Field} {a b : Ty} {n bt : Nat} (h : (P.info? T).map (fun ti => (ti.size, ti.zero)) = some (a.size + b.size, some (wrap (.prod a b) (zeroCells (.prod a b))))) (hu : P.underlying T = some (.struct fs))
  (hs : Nat.blt 0 (a.size + b.size) = true) (hn : Nat.ble 2 n = true) (hf : fieldsB tab n (.prod a b) fs = true) (hp : prodB P T (.prod a b) = true) : TiOk P tab T ⟨.prod a b, n, bt, false⟩ := by
 simp only [prodB, Bool.and_eq_true, Bool.not_eq_true'] at hp
 simp only [fieldsB, Bool.and_eq_true, List.all_eq_true] at hf
 obtain ⟨hf1, hf2⟩ := hf
 have key : ∀ (j : Nat) (f : Field), fs[j]? = some f → ∃ fi, tab.ti f.type = some fi ∧ compTy n j (.prod a b) = some fi.ty ∧ f.offset = compOff n j (.prod a b) ∧ f.name ≠ "_" := by
  intro j f hj
  have hm : (f, j) ∈ fs.toList.zipIdx := List.mem_zipIdx_iff_getElem?.2 (by simpa using hj)
  have := hf2 _ hm
  simp only at this
  split at this <;> try (cases this; done)
  rename_i fi hfi
  simp only [Bool.and_eq_true, Bool.not_eq_true'] at this
  obtain ⟨⟨k1, k2⟩, k3⟩ := this
  split at k1 <;> try (cases k1; done)
  rename_i u hu'
  have k1 := of_decide_eq_true k1
  subst k1
  exact ⟨fi, hfi, hu', Nat.eq_of_beq_eq_true k2, by simpa using k3⟩
 refine ⟨ti_info h, (Nat.blt_eq.mp hs : 0 < a.size + b.size), .inl (Nat.le_of_ble_eq_true hn), .inr ⟨rfl, fs, hu, Nat.eq_of_beq_eq_true hf1, fun j f hj => ?_⟩, fun _ => ⟨Nat.le_of_ble_eq_true hp.1.1, hp.1.2, hp.2, fun fs' hf' j f hj => ?_⟩⟩
 · obtain ⟨fi, k1, k2, k3, _⟩ := key j f hj
   exact ⟨fi, k1, k2, k3⟩
 · rw [hu] at hf'
   injection hf' with hf'
   injection hf' with hf'
   subst hf'
   obtain ⟨fi, _, _, _, k4⟩ := key j f hj
   exact k4
theorem ti_fn {ps rs : Array TypeId} {v : Bool} (h : (P.info? T).map (fun ti => (ti.size, ti.zero)) = some (1, some .nilFunc)) (hu : P.underlying T = some (.func ps rs v)) : FnOk P T := by
 refine ⟨?_, ps, rs, v, hu⟩
 cases e : P.info? T with
 | none => simp [e] at h
 | some ti =>
  simp only [e, Option.map_some, Option.some.injEq, Prod.mk.injEq] at h
  exact ⟨ti, rfl, h.1, h.2⟩
def AllT (P : Program) (tab : Tab) : List (TypeId × TK) → Prop
 | [] => True
 | (T, .data i) :: l => TiOk P tab T i ∧ AllT P tab l
 | (T, .fn) :: l => FnOk P T ∧ AllT P tab l
theorem allT_find {k : TK} : ∀ (l : List (TypeId × TK)), AllT P tab l → Tab.find l T = some k → match k with
  | .data i => TiOk P tab T i
  | .fn => FnOk P T
 | [], _, h => by simp [Tab.find] at h
 | (a, x) :: l, hA, h => by
  simp only [Tab.find] at h
  cases e : (a == T)
  · simp only [e, cond_false] at h
    cases x <;> exact allT_find l hA.2 h
  · simp only [e, cond_true, Option.some.injEq] at h
    have e := eq_of_beq e
    subst e h
    cases x <;> exact hA.1
theorem tabOk_of (h : AllT P tab tab) : TabOk' P tab where
 data T i hi := by
  unfold Tab.ti at hi
  split at hi <;> try (cases hi; done)
  rename_i i' hf
  injection hi with hi
  subst hi
  exact allT_find tab h hf
 fn T hf := allT_find tab h hf
end
end Go.Ve
namespace Go.Ve
def opsOf : Code → Array Oper
 | .region _ ops _ => ops
 | _ => #[]
end Go.Ve
namespace Go.Ve
open Go Go.RowKit Go.Sort
theorem ints_of {g : Gh} {w : World} {id : Id} {p : List Step} {xs : List Int} {a : Addr} {c : Array Value} {e : TypeId} (hs : a.spot = none) (hc : w.heap[a.block]? = some (.cells c e (0, 0)))
  (hE : ∀ i, i < xs.length → ∃ ds, cellsAt w (a.add (i * (Ty.int .i64).size)) ds ∧ ∃ h : i < List.length xs, ORep g w none (some id) I .shr (p ++ [.idx i]) xs[i] ds) : Holds (Value.int .i64) w a.block a.off xs.toArray := by
 intro j hj
 have hj : j < xs.length := by simpa using hj
 obtain ⟨ds, h1, _, h2⟩ := hE j hj
 have h2 : ds = [.int .i64 xs[j]] := h2
 subst h2
 have := h1 0 (by simp)
 obtain ⟨b, o, sp⟩ := a
 subst hs
 refine ⟨?_, ?_⟩
 · have hz : (Addr.add ⟨b, o, none⟩ (j * (Ty.int .i64).size)).add 0 = ⟨b, o + j, none⟩ := by
    simp [Addr.add, Ty.size]
   rw [hz] at this
   simpa [hj] using this
 · simp [World.frozen?, hc]
theorem row_heap {w : World} {n blk off : Nat} {d : Array Int} {os : Array Obj} {b : Nat} (hb : b < w.heap.size) (hne : b ≠ blk) : (grow (putRow (Value.int .i64) (Sort.ahead w n) blk off d) os).heap[b]? = w.heap[b]? := by
 simp only [grow, putRow, mapBlock, heap_ahead]
 rw [Array.getElem?_append_left (by simpa using hb)]
 simp [Array.getElem?_modify, Ne.symm hne]
theorem row_here {w : World} {n blk off : Nat} {d : Array Int} {os : Array Obj} {c : Array Value} {e : TypeId} (hc : w.heap[blk]? = some (.cells c e (0, 0))) :
  (grow (putRow (Value.int .i64) (Sort.ahead w n) blk off d) os).heap[blk]? = some (.cells (putCells (Value.int .i64) off d c) e (0, 0)) := by
 have hb : blk < w.heap.size := (Array.getElem?_eq_some_iff.1 hc).1
 simp only [grow, putRow, mapBlock, heap_ahead]
 rw [Array.getElem?_append_left (by simpa using hb)]
 simp [Array.getElem?_modify, hc, onCells]
theorem row_cell {w : World} {n blk off : Nat} {d d0 : Array Int} {os : Array Obj} (hb : blk < w.heap.size) (h0 : Holds (Value.int .i64) w blk off d0) (hd : d.size = d0.size) {j : Nat} (hj : j < d.size) :
  (grow (putRow (Value.int .i64) (Sort.ahead w n) blk off d) os).cell? ⟨blk, off + j, none⟩ = some (.int .i64 d[j]!) := by
 have h := (holds_putRow (Value.int .i64) (Sort.ahead w n) blk off d0 d (holds_ahead _ _ _ _ _ _ h0) hd j hj).1
 rw [← h]
 simp only [World.cell?, grow]
 rw [Array.getElem?_append_left (by simpa using hb)]
theorem sort_contract {P : Program} {f : FuncId} (hf : ∃ fn c, P.funcs[f]? = some fn ∧ (fn.name == "runtime.NumGoroutine") = false ∧ fn.body = some c)
  (hS : ∀ (blk off cap : Nat) (zs : List Int) (w : World), Holds (Value.int .i64) w blk off zs.toArray → blk < w.heap.size → zs.length < 4611686018427387904 →
   Calls P f #[.slice (some ⟨blk, off, none⟩) zs.length cap] w fun e w' => e = .returned (.tuple #[]) ∧ ∃ n os, w' = grow (putRow (Value.int .i64) (Sort.ahead w n) blk off (zs.mergeSort fun x y => decide (x ≤ y)).toArray) os)
  (hN : ∀ (p : Option Addr) (cap : Nat) (w : World), Calls P f #[.slice p 0 cap] w fun e w' => e = .returned (.tuple #[]) ∧ w' = w) (xs : List Int) (hx : xs.length < 4611686018427387904) :
  Contract P f [.ext 0] [.vec .shr I xs] [] [.vec .shr I (xs.mergeSort fun x y => decide (x ≤ y))] := by
 refine ⟨hf, fun g w vals hlv hargs hobs => ?_⟩
 obtain ⟨v, hv⟩ : ∃ v, vals.toList = [v] := by
  match hl : vals.toList with
  | [] => rw [hl] at hargs; exact hargs.elim
  | [v] => exact ⟨v, rfl⟩
  | _ :: _ :: _ => rw [hl] at hargs; exact hargs.2.elim
 have hv' : vals = #[v] := by apply Array.ext'; simpa using hv
 subst hv'
 have e1 : v = g.hdr (some (extId 0)) [] := hargs.1
 subst e1
 rcases hobs 0 _ rfl with ⟨h1, h2⟩ | ⟨a, cap, c, e, h1, h2, h3, h4, h5, h6, h7, h8⟩
 · obtain rfl : xs = [] := List.length_eq_zero_iff.1 h2
   rw [h1]
   refine (hN none 0 w).mono ?_
   rintro _ _ ⟨rfl, rfl⟩
   refine ⟨_, g, rfl, Le.refl _ _, hlv, ⟨[], trivial, rfl⟩, rfl, fun k o o' q1 q2 => ?_⟩
   cases k with
   | zero =>
    simp only [List.getElem?_cons_zero, Option.some.injEq] at q1 q2
    subst q1; subst q2
    exact ⟨rfl, .inl ⟨h1, by simp⟩, rfl, fun _ => rfl⟩
   | succ k => simp at q1
 · have hb : a.block < w.heap.size := (Array.getElem?_eq_some_iff.1 h4).1
   have hH := ints_of (g := g) (p := []) h2 h4 h8
   have ha : a = ⟨a.block, a.off, none⟩ := by obtain ⟨b, o, sp⟩ := a; subst h2; rfl
   rw [h1, ha]
   refine (hS a.block a.off cap xs w hH hb hx).mono ?_
   rintro _ _ ⟨rfl, n, os, rfl⟩
   have hl : (xs.mergeSort fun x y => decide (x ≤ y)).length = xs.length := by simp
   refine ⟨_, g, rfl, ⟨rfl, rfl, rfl, by simp [grow], fun b hb' ho => ⟨row_heap hb' (fun e => by subst e; rw [h3] at ho; cases ho), ho⟩, fun b hb' ho => ⟨row_heap hb' (fun e => by subst e; rw [h3] at ho; cases ho), ho⟩⟩,
    fun b o ho => Nat.lt_of_lt_of_le (hlv b o ho) (by simp [grow]), ⟨[], trivial, rfl⟩, rfl, fun k o o' q1 q2 => ?_⟩
   cases k with
   | succ k => simp at q1
   | zero =>
    simp only [List.getElem?_cons_zero, Option.some.injEq] at q1 q2
    subst q1; subst q2
    refine ⟨rfl, .inr ⟨a, cap, putCells (Value.int .i64) a.off (xs.mergeSort fun x y => decide (x ≤ y)).toArray c, e, by rw [h1]; simp [hl], h2, h3, row_here h4, by simpa [hl] using h5, h6, by simpa [putCells] using h7, fun i hi => ?_⟩, rfl, fun _ => rfl⟩
    have hi' : i < (xs.mergeSort fun x y => decide (x ≤ y)).length := hi
    refine ⟨[.int .i64 (xs.mergeSort fun x y => decide (x ≤ y))[i]], fun j hj => ?_, hi', rfl⟩
    have hj : j = 0 := by simpa using hj
    subst hj
    have := row_cell (n := n) (os := os) (d := (xs.mergeSort fun x y => decide (x ≤ y)).toArray) hb hH (by simp) (j := i) (by simpa using hi')
    have hz : (Addr.add a (i * (Ty.int .i64).size)).add 0 = ⟨a.block, a.off + i, none⟩ := by
     rw [ha]; simp [Addr.add, Ty.size]
    have hq : (xs.mergeSort fun x y => decide (x ≤ y))[i]?.getD 0 = (xs.mergeSort fun x y => decide (x ≤ y))[i] := by rw [List.getElem?_eq_getElem hi']; rfl
    rw [show (a.add (i * (Ty.int .i64).size)).add 0 = _ from hz]
    simpa [hq] using this
theorem compact_len (zs : List Int) : (Lib.compact zs).length ≤ zs.length := by
 simp only [Lib.compact, Lib.compactUpTo, List.length_map]
 exact Nat.le_trans (List.length_filter_le _ _) (by simp)
theorem compact_contract {P : Program} {f : FuncId} (hf : ∃ fn c, P.funcs[f]? = some fn ∧ (fn.name == "runtime.NumGoroutine") = false ∧ fn.body = some c)
  (hS : ∀ (blk off cap : Nat) (zs : List Int) (w : World), Holds (Value.int .i64) w blk off zs.toArray → zs.length ≤ 9223372036854775807 → zs.length ≤ cap →
   Calls P f #[.slice (some ⟨blk, off, none⟩) zs.length cap] w fun e w' => e = .returned (.slice (some ⟨blk, off, none⟩) (Lib.compact zs).length cap) ∧ ∃ q, w' = putRow (Value.int .i64) (Sort.ahead w q) blk off (Lib.compact zs ++ List.replicate (zs.length - (Lib.compact zs).length) 0).toArray)
  (hN : ∀ (p : Option Addr) (cap : Nat) (w : World), Calls P f #[.slice p 0 cap] w fun e w' => e = .returned (.slice p 0 cap) ∧ w' = w) (xs : List Int) :
  Contract P f [.own (.own .shr) ⟨.list I, xs⟩] [] [(.own .shr, ⟨.list I, Lib.compact xs⟩)] [] := by
 refine ⟨hf, fun g w vals hlv hargs hobs => ?_⟩
 obtain ⟨v, hv⟩ : ∃ v, vals.toList = [v] := by
  match hl : vals.toList with
  | [] => rw [hl] at hargs; exact hargs.elim
  | [v] => exact ⟨v, rfl⟩
  | _ :: _ :: _ => rw [hl] at hargs; exact hargs.2.elim
 have hv' : vals = #[v] := by apply Array.ext'; simpa using hv
 subst hv'
 obtain ⟨cs, hO, e1⟩ := hargs.1
 subst e1
 rcases hO with ⟨k, _⟩ | ⟨_, hcs, hL⟩
 · cases k
 subst hcs
 have hw : wrap (.list I) [g.hdr none [.idx 0]] = g.hdr none [.idx 0] := rfl
 rw [hw]
 rcases hL with ⟨h1, h2⟩ | ⟨a, cap, c, e, h1, h2, h3, h4, h5, h6, h7, h8⟩
 · have h2 : List.length xs = 0 := h2
   obtain rfl : xs = [] := List.length_eq_zero_iff.1 h2
   rw [h1]
   refine (hN none 0 w).mono ?_
   rintro _ _ ⟨rfl, rfl⟩
   exact ⟨_, g, rfl, Le.refl _ _, hlv, ⟨[_], ⟨⟨[g.hdr none [.idx 0]], .inr ⟨by simp, rfl, .inl ⟨h1, rfl⟩⟩, h1.symm⟩, trivial⟩, rfl⟩, rfl, fun k o o' q1 q2 => by simp at q1⟩
 · have hb : a.block < w.heap.size := (Array.getElem?_eq_some_iff.1 h4).1
   have hH := ints_of (xs := xs) (g := g) (p := [.idx 0]) (id := extId 0) h2 h4 (fun i hi => by
    obtain ⟨ds, d1, d2, d3⟩ := h8 i hi
    exact ⟨ds, d1, d2, d3⟩)
   have ha : a = ⟨a.block, a.off, none⟩ := by obtain ⟨b, o, sp⟩ := a; subst h2; rfl
   have h1' : g.hdr none [.idx 0] = .slice (some ⟨a.block, a.off, none⟩) xs.length cap := by rw [h1, ← ha]
   rw [h1']
   have hc := compact_len xs
   have h5' : xs.length ≤ cap := h5
   refine (hS a.block a.off cap xs w hH (by simp only [maxLen] at h6; omega) h5).mono ?_
   rintro _ _ ⟨rfl, n, rfl⟩
   generalize hys : Lib.compact xs = ys at hc ⊢
   have hgr : ∀ (W : World), W = grow W #[] := fun W => by simp
   rw [hgr (putRow _ _ _ _ _)]
   have hsz : (ys ++ List.replicate (xs.length - ys.length) (0 : Int)).toArray.size = xs.length := by simp; omega
   let g' : Gh := { g with hdr := fun i p => if i = none ∧ p = [.idx 0] then .slice (some a) ys.length cap else g.hdr i p }
   have hh : g'.hdr none [.idx 0] = .slice (some a) ys.length cap := by simp [g']
   refine ⟨_, g', rfl, ⟨rfl, rfl, rfl, by simp [grow], fun b hb' ho => ⟨row_heap hb' (fun e => by subst e; rw [h3] at ho; cases ho), ho⟩, fun b hb' ho => ⟨row_heap hb' (fun e => by subst e; rw [h3] at ho; cases ho), ho⟩⟩,
    fun b o ho => Nat.lt_of_lt_of_le (hlv b o ho) (by simp [grow]), ⟨[_], ⟨⟨[g'.hdr none [.idx 0]], .inr ⟨by simp, rfl, .inr ⟨a, cap, putCells (Value.int .i64) a.off (ys ++ List.replicate (xs.length - ys.length) (0 : Int)).toArray c, e, hh, h2, h3, row_here h4, ?_, h6, by simpa [putCells] using h7, fun i hi => ?_⟩⟩, ?_⟩, trivial⟩, rfl⟩, rfl, fun k o o' q1 q2 => by simp at q1⟩
   · exact Nat.le_trans hc h5
   · have hi' : i < ys.length := hi
     refine ⟨[.int .i64 ys[i]], fun j hj => ?_, hi', rfl⟩
     have hj : j = 0 := by simpa using hj
     subst hj
     have := row_cell (n := n) (os := #[]) (d := (ys ++ List.replicate (xs.length - ys.length) (0 : Int)).toArray) hb hH (by simp; omega) (j := i) (by simp; omega)
     have hz : (Addr.add a (i * (Ty.int .i64).size)).add 0 = ⟨a.block, a.off + i, none⟩ := by
      rw [ha]; simp [Addr.add, Ty.size]
     rw [show (a.add (i * (Ty.int .i64).size)).add 0 = _ from hz]
     rw [this]
     simp [hi', List.getElem?_append_left]
   · rw [hh, ← ha]; rfl
theorem left_fresh {g : Gh} {w w' : World} {v : Value} {ys : List Int} {e : TypeId} {os : List Ob} (hlv : ∀ b o, g.own b = some o → b < w.heap.size) (hobs : ∀ k o, os[k]? = some o → RootRep g w none (extId k) o)
  (hr : w'.ownsRow w.heap.size e 1 v ys.length (ys.map (Value.int .i64))) (hb : Below w.heap.size w w') : ∃ g', Left g w os [(.own .shr, ⟨.list I, ys⟩)] os v g' w' := by
 let g' : Gh := { g with hdr := fun i p => if i = none ∧ p = [.idx 0] then v else g.hdr i p, own := fun b => if v.ownBlock = some b then some (none, some [.idx 0]) else g.own b }
 have hv : ∀ b, v.ownBlock = some b → w.heap.size ≤ b ∧ b < w'.heap.size := by
  intro b hb'
  rcases hr.2 with ⟨rfl, _⟩ | ⟨q, cap, cur, rfl, q1, q2, _⟩
  · simp [Value.ownBlock] at hb'
  · have : q = b := by simpa [Value.ownBlock] using hb'
    subst this
    exact ⟨q1, (Array.getElem?_eq_some_iff.1 q2).1⟩
 have hown : ∀ b, b < w.heap.size → g'.own b = g.own b := fun b hb' => if_neg fun e' => by have := (hv b e').1; omega
 have hle : Le g w g' w' := ⟨hb.os, hb.tape, hb.output, hb.size, fun b h1 h2 => ⟨hb.block b h1, by rw [hown b h1]; exact h2⟩, fun b h1 h2 => ⟨hb.block b h1, by rw [hown b h1]; exact h2⟩⟩
 have hh : g'.hdr none [.idx 0] = v := by simp [g']
 refine ⟨g', hle, fun b o ho => ?_, ⟨[_], ⟨⟨[g'.hdr none [.idx 0]], .inr ⟨by simp, rfl, ?_⟩, hh.symm⟩, trivial⟩, rfl⟩, rfl, fun k o o' q1 q2 => ?_⟩
 · by_cases h : v.ownBlock = some b
   · exact (hv b h).2
   · have : g'.own b = g.own b := if_neg h
     exact Nat.lt_of_lt_of_le (hlv b o (this ▸ ho)) hb.size
 · rcases hr.2 with ⟨rfl, q0⟩ | ⟨q, cap, cur, rfl, q1, q2, q3, q4, q5, q6⟩
   · exact .inl ⟨hh, q0⟩
   · refine .inr ⟨⟨q, 0, none⟩, cap, cur, e, hh, rfl, if_pos rfl, q2, q3, q4, by simp [q5, Ty.size], fun i hi => ?_⟩
     have hi' : i < ys.length := hi
     refine ⟨[.int .i64 ys[i]], fun j hj => ?_, hi', rfl⟩
     have hj : j = 0 := by simpa using hj
     subst hj
     have hz : (Addr.add ⟨q, 0, none⟩ (i * (Ty.int .i64).size)).add 0 = ⟨q, i, none⟩ := by
      simp [Addr.add, Ty.size]
      intro h; exact h.symm
     rw [show (Addr.add ⟨q, 0, none⟩ (i * (Ty.int .i64).size)).add 0 = _ from hz]
     have h6 := congrArg (fun l => l[i]?) q6
     simp only [List.getElem?_take, List.getElem?_map, List.getElem?_eq_getElem hi', Option.map_some] at h6
     rw [if_pos (by omega)] at h6
     simpa [World.cell?, q2] using h6
 · rw [q1] at q2
   injection q2 with q2
   subst q2
   have hhd : ∀ p, g'.hdr (some (extId k)) p = g.hdr (some (extId k)) p := fun p => by simp [g']
   have hsame : Same g w g' w' (some (extId k)) :=
    { hdr := hhd, base := fun _ _ => rfl, own := fun b p hp => ⟨hb.block b (hlv b _ hp), by rw [hown b (hlv b _ hp)]; exact hp⟩ }
   exact ⟨rfl, RootRep.same hle hsame (fun p => by simp) _ (fun _ _ _ _ => rfl) (hobs k o q1), rfl, fun _ => hhd []⟩
theorem vals_one {g : Gh} {w : World} {i : Nat} {x : Arg} {vals : Array Value} (h : ArgsRep g w i [x] vals.toList) : ∃ v, vals = #[v] ∧ ArgRep g w i x v := by
 match hl : vals.toList with
 | [] => rw [hl] at h; exact h.elim
 | [v] => rw [hl] at h; exact ⟨v, by apply Array.ext'; simpa using hl, h.1⟩
 | _ :: _ :: _ => rw [hl] at h; exact h.2.elim
theorem clone_contract {P : Program} {f : FuncId} {T : TypeId} (hf : ∃ fn c, P.funcs[f]? = some fn ∧ (fn.name == "runtime.NumGoroutine") = false ∧ fn.body = some c)
  (hS : ∀ (b off n c : Nat) (zs : List Int) (w : World), n ≤ zs.length → n * 8 ≤ 140737488355328 → (∀ j, j < zs.length → w.cell? ⟨b, off + j, none⟩ = some (.int .i64 (zs.getD j 0))) →
   Calls P f #[.slice (some ⟨b, off, none⟩) n c] w fun e w' => ∃ v', e = .returned v' ∧ w'.ownsRow w.heap.size T 1 v' n ((zs.take n).map (Value.int .i64)) ∧ v' ≠ .slice none 0 0 ∧ Below w.heap.size w w')
  (hE : ∀ (a : Addr) (c : Nat) (w : World), Calls P f #[.slice (some a) 0 c] w fun e w' => ∃ v', e = .returned v' ∧ w'.ownsRow w.heap.size T 1 v' 0 [] ∧ Below w.heap.size w w')
  (hN : ∀ (n c : Nat) (w : World), Calls P f #[.slice none n c] w fun e w' => e = .returned (.slice none 0 0) ∧ w' = w) (xs : List Int) (hx : xs.length * 8 ≤ 140737488355328) :
  Contract P f [.val ⟨.list I, xs⟩] [] [(.own .shr, ⟨.list I, xs⟩)] [] := by
 refine ⟨hf, fun g w vals hlv hargs hobs => ?_⟩
 obtain ⟨v, rfl, cs, hO, rfl⟩ := vals_one hargs
 rcases hO with ⟨rfl, h0⟩ | ⟨a, cap, rfl, h2, h3, h4⟩
 · have h0 : xs = [] := h0
   subst h0
   refine (hN 0 0 w).mono ?_
   rintro _ _ ⟨rfl, rfl⟩
   obtain ⟨g', hg⟩ := left_fresh (v := .slice none 0 0) (ys := []) (e := T) hlv hobs ⟨rfl, .inl ⟨rfl, rfl⟩⟩ (Below.refl _ _)
   exact ⟨_, g', rfl, hg⟩
 · by_cases hz : xs.length = 0
   · have hx0 : xs = [] := List.eq_nil_of_length_eq_zero hz
     subst hx0
     refine (hE a cap w).mono ?_
     rintro _ w' ⟨v', rfl, q1, q3⟩
     obtain ⟨g', hg⟩ := left_fresh (ys := []) hlv hobs (by simpa using q1) q3
     exact ⟨_, g', rfl, hg⟩
   have h2 := h2 (by show 0 < xs.length; omega)
   have ha : a = ⟨a.block, a.off, none⟩ := by obtain ⟨b, o, sp⟩ := a; subst h2; rfl
   have hw : wrap (.list I) [Value.slice (some a) (List.length xs) cap] = .slice (some ⟨a.block, a.off, none⟩) xs.length cap := by rw [← ha]; rfl
   rw [hw]
   refine (hS a.block a.off xs.length cap xs w (Nat.le_refl _) hx fun j hj => ?_).mono ?_
   · obtain ⟨_, _, ds, d1, d2⟩ := h4 j hj
     have d2 : ds = [.int .i64 xs[j]] := d2
     subst d2
     have := d1 0 (by simp)
     have hz : (a.add (j * (Ty.int .i64).size)).add 0 = ⟨a.block, a.off + j, none⟩ := by
      rw [ha]; simp [Addr.add, Ty.size]
     rw [show (a.add (j * (Ty.int .i64).size)).add 0 = _ from hz] at this
     simpa [hj] using this
   · rintro _ w' ⟨v', rfl, q1, _, q3⟩
     obtain ⟨g', hg⟩ := left_fresh (ys := xs) hlv hobs (by simpa using q1) q3
     exact ⟨_, g', rfl, hg⟩
noncomputable def compactFn (f : FuncId) : Fn := ⟨f, [.own (.own .shr) (.list I)], [], ⟨[⟨2, .own .shr, .list I, none⟩], []⟩, fun x _ => some (((Lib.compact x.1, ()), ()))⟩
noncomputable def cloneFn (f : FuncId) : Fn := ⟨f, [.val (.list I)], [], ⟨[⟨2, .own .shr, .list I, none⟩], []⟩, fun x _ => guardB (decide (List.length x.1 * 8 ≤ 140737488355328)) (some (((x.1, ()), ())))⟩
noncomputable def sortedFn (f h : FuncId) (m : Mask) : Fn := ⟨f, [.fn h [0]], [.box m (.list I)], ⟨[⟨2, .own .shr, .list I, none⟩], [.box m (.list I)]⟩, fun _ y => guardB (decide (List.length y.1 * 8 ≤ 140737488351232)) (some ((List.mergeSort y.1 (fun a b => decide (a ≤ b)), ()), (y.1, ())))⟩
noncomputable def sortFn (f : FuncId) : Fn := ⟨f, [.ext 0], [.vec .shr I], ⟨[], [.vec .shr I]⟩, fun _ y => guardB (decide (List.length y.1 < 4611686018427387904)) (some ((), (List.mergeSort y.1 (fun a b => decide (a ≤ b)), ())))⟩
theorem compactFn_says {P : Program} {f : FuncId} (h : ∀ xs : List Int, Contract P f [.own (.own .shr) ⟨.list I, xs⟩] [] [(.own .shr, ⟨.list I, Lib.compact xs⟩)] []) : (compactFn f).Says P := by
 intro x y p hp
 injection hp with hp
 subst hp
 exact h x.1
theorem cloneFn_says {P : Program} {f : FuncId} (h : ∀ xs : List Int, xs.length * 8 ≤ 140737488355328 → Contract P f [.val ⟨.list I, xs⟩] [] [(.own .shr, ⟨.list I, xs⟩)] []) : (cloneFn f).Says P := by
 intro x y p hp
 obtain ⟨hg, hp⟩ := guardB_some hp
 injection hp with hp
 subst hp
 exact h x.1 (by simpa using hg)
theorem sortFn_says {P : Program} {f : FuncId} (h : ∀ xs : List Int, xs.length < 4611686018427387904 → Contract P f [.ext 0] [.vec .shr I xs] [] [.vec .shr I (xs.mergeSort fun x y => decide (x ≤ y))]) : (sortFn f).Says P := by
 intro x y p hp
 obtain ⟨hg, hp⟩ := guardB_some hp
 injection hp with hp
 subst hp
 exact h y.1 (by simpa using hg)
end Go.Ve
