/-
 An evaluator of the code over typed data, proved sound once (part 2 of 4).
-/
import Derived.Test.YtcabghamgilafaaGreatE1
import Derived.IntWalk
import Derived.Laws.Tables
set_option linter.unusedVariables false
set_option linter.unusedSimpArgs false
namespace Go.Ve
open Go Go.RowKit
section
variable {P : Program} {g0 : Gh} {w0 : Fra} {N : Nat} {s : St} {g : Gh} {a : Act} {w : World} {α : Type} {r : α} {Q : Exit → Act → World → Prop}
theorem RootRep.hl {id : Id} {o : Ob} {hl : Option (RId × List Step)} (hn : ∀ r, hl ≠ some (some id, r)) (h : RootRep g w none id o) : RootRep g w hl id o :=
 RootRep.same (Le.refl g w) (Same.refl g w _) (fun r => ⟨fun e => absurd e (hn r), fun e => by cases e⟩) o (fun _ _ _ _ => rfl) h
theorem R.new (h : R g0 w0 N s g a w) {id : Id} (hid : id.1 < N) {o : Ob} {g2 : Gh} {w2 : World} (hle : Le g w g2 w2) (hs : ∀ i, i ≠ id → Same g w g2 w2 (some i)) (hf : s.free id = true) (ho : RootRep g2 w2 none id o) (hv : ∀ b o, g2.own b = some o → b < w2.heap.size) :
  R g0 w0 N (s.new id o) g2 a w2 where
 frame := h.frame.trans hle
 tmps t := by
  show TRep g2 w2 (s.new id o).sig (bif (s.tmp t).looks false id then .dead else s.tmp t) _
  cases hl : (s.tmp t).looks false id
  · simp only [cond_false]
    refine TRep.le hle _ _ (fun i hi => ?_) (h.tmps t)
    have hne : i ≠ id := by rintro rfl; rw [hl] at hi; cases hi
    refine ⟨(hs i hne).hdr, (hs i hne).base i rfl, fun sg hsg => ?_⟩
    simp only [St.sig, St.new, St.put, updI_ne _ _ hne, St.purge] at hsg ⊢
    cases hb : Ob.holds id (s.obj i)
    · simpa [hb] using hsg
    · simp [hb] at hsg
  · trivial
 objs i o' e := by
  by_cases hi : i = id
  · subst hi
    simp only [St.new, St.put, updI_same, Option.some.injEq] at e
    subst e
    have : (s.new i o).hl = s.hl := rfl
    rw [this]
    exact RootRep.hl (hl_ne hf) ho
  · simp only [St.new, St.put, updI_ne _ _ hi, St.purge] at e
    cases hb : Ob.holds id (s.obj i)
    · simp only [hb, cond_false] at e
      have : (s.new id o).hl = s.hl := rfl
      rw [this]
      refine RootRep.same hle (hs i hi) (fun _ => Iff.rfl) o' (fun f ef j hj => ?_) (h.objs i o' e)
      refine (hs j ?_).base j rfl
      rintro rfl
      rw [e, ef] at hb
      simp only [Ob.holds, List.any_eq_false] at hb
      exact hb j hj (sameId_eq.2 rfl)
    · simp [hb] at e
 lives := hv
 defers := h.defers
 size := h.size
 small := h.small
 ext i o' e hi := by
  have hne : i ≠ id := by
   rintro rfl
   have := h.small
   omega
  simp only [St.new, St.put, updI_ne _ _ hne, St.purge] at e
  cases hb : Ob.holds id (s.obj i)
  · simp only [hb, cond_false] at e
    rw [(hs i hne).base i rfl, (hs i hne).hdr]
    exact h.ext i o' e hi
  · simp [hb] at e
theorem some_ne {i id : Id} (h : i ≠ id) : (some i : RId) ≠ some id := by simpa using h
theorem place_vec (h : R g0 w0 N s g a w) {id : Id} (hid : id.1 < N) (hf : s.free id = true) {t : Ty} {m : Mask} {xs : List t.den} {cs : List Value} (ho : ORep g w none none (.list t) (.own m) [] xs cs) :
  R g0 w0 N (s.new id (.vec m t xs)) (g.mv none [] (some id) []) a w ∧ cs = [(g.mv none [] (some id) []).hdr (some id) []] ∧ Le g w (g.mv none [] (some id) []) w := by
 have k := ORep.move (mv_le (g := g) (w := w) (id := none) (p := []) (id' := some id) (p' := [])) _ _ [] [] _ _ (mv_moved (by simp) (by simp)) ho
 rcases k with ⟨k, _⟩ | ⟨_, k1, k2⟩
 · cases k
 · exact ⟨h.new hid mv_le (fun i hi => mv_same (by simp) (some_ne hi)) hf k2 (fun b o e => by
    cases k : g.own b with
    | none => rw [mv_none k] at e; cases e
    | some o' => exact h.lives b o' k), k1, mv_le⟩
theorem heap_new (w : World) (o : Obj) : (w.alloc o).heap[w.heap.size]? = some o := by
 show (w.heap.push o)[w.heap.size]? = _
 simp
theorem alloc_le (g : Gh) (w : World) (o : Obj) : Le g w g (w.alloc o) := ⟨rfl, rfl, rfl, by show _ ≤ (w.heap.push o).size; simp, fun b hb h => ⟨Below.heap_alloc w o b hb, h⟩, fun b hb h => ⟨Below.heap_alloc w o b hb, h⟩⟩
def _root_.Go.Ve.Gh.at (g : Gh) (n : Nat) (o : RId × Option (List Step)) : Gh := { g with own := fun b => if b = n then some o else g.own b }
theorem at_le {g : Gh} {w w' : World} {n : Nat} {o : RId × Option (List Step)} (hn : w.heap.size ≤ n) (h : Le g w g w') : Le g w (g.at n o) w' :=
 ⟨h.os, h.tape, h.output, h.size, fun b hb k => ⟨(h.keep b hb k).1, by simp only [Gh.at]; rw [if_neg (by omega)]; exact k⟩, fun b hb k => ⟨(h.hid b hb k).1, by simp only [Gh.at]; rw [if_neg (by omega)]; exact k⟩⟩
theorem cellsAt_new (w : World) (cs : List Value) (e : TypeId) (rest : Array Value) : cellsAt (w.alloc (.cells (cs.toArray ++ rest) e)) ⟨w.heap.size, 0, none⟩ cs := by
 intro j hj
 rw [add_eq rfl]
 have h1 : j < (cs.toArray ++ rest).size := by simp; omega
 have : (cs.toArray ++ rest)[j]? = some cs[j] := by
  rw [Array.getElem?_append_left (by simpa using hj)]
  simp [hj]
 unfold World.cell?
 rw [heap_new]
 simpa using this
theorem cellsAt_alloc {w : World} {o : Obj} {a : Addr} {cs : List Value} (h : cellsAt w a cs) : cellsAt (w.alloc o) a cs := by
 intro j hj
 have := h j hj
 have hlt := World.block_lt_of_cell? w _ this
 rw [World.cell?_of_block (w := w) (Below.heap_alloc w o _ hlt)]
 exact this
theorem ORep.at {id : RId} {n : Nat} {ow : RId × Option (List Step)} {w' : World} (hn : ∀ b o, g.own b = some o → b < n) (hle : Le g w (g.at n ow) w') (hk : ∀ b o, g.own b = some o → w'.heap[b]? = w.heap[b]?) {hl : Option (RId × List Step)} {t : Ty} {m : Mask} {p : List Step} {x : t.den} {cs : List Value}
  (h : ORep g w hl id t m p x cs) : ORep (g.at n ow) w' hl id t m p x cs :=
 ORep.move hle _ _ _ _ _ _ ⟨fun _ => rfl, fun b q e => ⟨hk b _ e, by simp only [Gh.at]; rw [if_neg (by have := hn b _ e; omega)]; exact e⟩, fun _ => Iff.rfl⟩ h
theorem Same.at {i : RId} {n : Nat} {ow : RId × Option (List Step)} {w' : World} (hn : ∀ b o, g.own b = some o → b < n) (hk : ∀ b o, g.own b = some o → w'.heap[b]? = w.heap[b]?) : Same g w (g.at n ow) w' i :=
 ⟨fun _ => rfl, fun _ _ => rfl, fun b q e => ⟨hk b _ e, by simp only [Gh.at]; rw [if_neg (by have := hn b _ e; omega)]; exact e⟩⟩
def _root_.Go.Ve.Gh.lay (g : Gh) (id : Id) (ad : Addr) : Gh := { g with base := fun i => if i = id then ad else g.base i }
theorem place_box (h : R g0 w0 N s g a w) {id : Id} (hid : id.1 < N) (hf : s.free id = true) {t : Ty} {m : Mask} {x : t.den} {cs : List Value} (ho : ORep g w none none t m [] x cs) (e : TypeId) :
  ∃ g2, R g0 w0 N (s.new id (.box m ⟨t, x⟩)) g2 a (w.alloc (.cells cs.toArray e)) ∧ g2.base id = ⟨w.heap.size, 0, none⟩ := by
 let w2 := w.alloc (.cells cs.toArray e)
 let g1 := g.mv none [] (some id) []
 let g2 := (g1.at w.heap.size (some id, none)).lay id ⟨w.heap.size, 0, none⟩
 have hl1 : ∀ b o, g1.own b = some o → b < w.heap.size := fun b o k => by
  cases k' : g.own b with
  | none => rw [mv_none k'] at k; cases k
  | some o' => exact h.lives b o' k'
 have hk : ∀ b, b < w.heap.size → w2.heap[b]? = w.heap[b]? := fun b hb => Below.heap_alloc w _ b hb
 have hle1 : Le g w g1 w := mv_le
 have hle2 : Le g1 w (g1.at w.heap.size (some id, none)) w2 := at_le (Nat.le_refl _) (alloc_le _ _ _)
 have hle3 : Le (g1.at w.heap.size (some id, none)) w2 g2 w2 := ⟨rfl, rfl, rfl, Nat.le_refl _, fun b _ k => ⟨rfl, k⟩, fun b _ k => ⟨rfl, k⟩⟩
 have hle : Le g w g2 w2 := (hle1.trans hle2).trans hle3
 have o1 : ORep g1 w none (some id) t m [] x cs := ORep.move mv_le _ _ [] [] _ _ (mv_moved (by simp) (by simp)) ho
 have o2 : ORep g2 w2 none (some id) t m [] x cs := by
  have := ORep.at (n := w.heap.size) (ow := (some id, none)) hl1 hle2 (fun b o k => hk b (hl1 b o k)) o1
  exact ORep.move hle3 _ _ _ _ _ _ ⟨fun _ => rfl, fun _ _ k => ⟨rfl, k⟩, fun _ => Iff.rfl⟩ this
 have hb : g2.base id = ⟨w.heap.size, 0, none⟩ := by simp [g2, Gh.lay]
 have hob : g2.own w.heap.size = some (some id, none) := by simp [g2, Gh.lay, Gh.at]
 refine ⟨g2, h.new hid hle (fun i hi => ?_) hf ⟨cs, cs.toArray, e, by rw [hb], by rw [hb]; exact hob, by rw [hb]; exact heap_new w _, ?_, o2⟩ (fun b o k => ?_), hb⟩
 · have s1 : Same g w g1 w (some i) := mv_same (by simp) (some_ne hi)
   have s2 : Same g1 w (g1.at w.heap.size (some id, none)) w2 (some i) := Same.at hl1 (fun b o k => hk b (hl1 b o k))
   have s3 : Same (g1.at w.heap.size (some id, none)) w2 g2 w2 (some i) := ⟨fun _ => rfl, fun j e => by injection e with e; subst e; simp [g2, Gh.lay, hi], fun _ _ k => ⟨rfl, k⟩⟩
   exact (s1.trans s2).trans s3
 · rw [hb]
   have := cellsAt_new w cs e #[]
   simpa using this
 · have hsz : w2.heap.size = w.heap.size + 1 := by show (w.heap.push _).size = _; simp
   rw [hsz]
   simp only [g2, Gh.lay, Gh.at] at k
   split at k
   · omega
   · have := hl1 b o k; omega
theorem place_fbox (h : R g0 w0 N s g a w) {id : Id} (hid : id.1 < N) (hf : s.free id = true) {f : Option FnV} {mv : Value} (hm : mv = match f with
   | some f => FnVal g f
   | none => .nilFunc) (hc : ∀ f', f = some f' → id ∉ f'.caps) (e : TypeId) :
  ∃ g2, R g0 w0 N (s.new id (.fbox f)) g2 a (w.alloc (.cells #[mv] e)) ∧ g2.base id = ⟨w.heap.size, 0, none⟩ := by
 let w2 := w.alloc (.cells #[mv] e)
 let g2 := (g.at w.heap.size (some id, none)).lay id ⟨w.heap.size, 0, none⟩
 have hk : ∀ b, b < w.heap.size → w2.heap[b]? = w.heap[b]? := fun b hb => Below.heap_alloc w _ b hb
 have hle2 : Le g w (g.at w.heap.size (some id, none)) w2 := at_le (Nat.le_refl _) (alloc_le _ _ _)
 have hle3 : Le (g.at w.heap.size (some id, none)) w2 g2 w2 := ⟨rfl, rfl, rfl, Nat.le_refl _, fun b _ k => ⟨rfl, k⟩, fun b _ k => ⟨rfl, k⟩⟩
 have hle : Le g w g2 w2 := hle2.trans hle3
 have hb : g2.base id = ⟨w.heap.size, 0, none⟩ := by simp [g2, Gh.lay]
 have hob : g2.own w.heap.size = some (some id, none) := by simp [g2, Gh.lay, Gh.at]
 have hcell : w2.cell? ⟨w.heap.size, 0, none⟩ = some mv := by
  have h0 := cellsAt_new w [mv] e #[] 0 (by simp)
  have e1 : ([mv].toArray ++ #[] : Array Value) = #[mv] := by simp
  rw [add_zero, e1] at h0
  exact h0
 refine ⟨g2, h.new hid hle (fun i hi => ?_) hf ⟨by rw [hb], by rw [hb]; exact hob, ⟨_, _, by rw [hb]; exact heap_new w _⟩, ?_⟩ (fun b o k => ?_), hb⟩
 · have s2 : Same g w (g.at w.heap.size (some id, none)) w2 (some i) := Same.at h.lives (fun b o k => hk b (h.lives b o k))
   have s3 : Same (g.at w.heap.size (some id, none)) w2 g2 w2 (some i) := ⟨fun _ => rfl, fun j e => by injection e with e; subst e; simp [g2, Gh.lay, hi], fun _ _ k => ⟨rfl, k⟩⟩
   exact s2.trans s3
 · rw [hb, hcell, hm]
   cases f with
   | none => rfl
   | some f =>
    have : (f.caps.map fun i => Value.pointer (some (g.base i))) = f.caps.map fun i => Value.pointer (some (g2.base i)) :=
     List.map_congr_left fun i hi => by
      have : i ≠ id := by rintro rfl; exact hc f rfl hi
      simp [g2, Gh.lay, this, Gh.at]
    simp only [FnVal, this]
 · have hsz : w2.heap.size = w.heap.size + 1 := by show (w.heap.push _).size = _; simp
   rw [hsz]
   simp only [g2, Gh.lay, Gh.at] at k
   split at k
   · omega
   · have := h.lives b o k; omega
end
end Go.Ve
namespace Go.Ve
open Go Go.RowKit
section
variable {P : Program} {g0 : Gh} {w0 : Fra} {N : Nat} {s : St} {g : Gh} {a : Act} {w : World} {α : Type} {r : α} {Q : Exit → Act → World → Prop}
theorem SRep.one : ∀ {t : Ty} {x : t.den} {cs : List Value}, SRep g w t x cs → ∀ v ∈ cs, v.oneCell' = true
 | .int _, _, _, h => by simp only [SRep] at h; subst h; simp [Value.oneCell']
 | .bool, _, _, h => by simp only [SRep] at h; subst h; simp [Value.oneCell']
 | .str, _, _, h => by simp only [SRep] at h; subst h; simp [Value.oneCell']
 | .unit, _, _, h => by simp only [SRep] at h; subst h; simp
 | .prod a b, x, cs, ⟨c, d, e, h1, h2⟩ => by
  subst e
  intro v hv
  rcases List.mem_append.1 hv with hv | hv
  · exact h1.one v hv
  · exact h2.one v hv
 | .list t, xs, cs, h => by rcases h with ⟨h, _⟩ | ⟨_, _, h, _⟩ <;> subst h <;> simp [Value.oneCell']
theorem ORep.one {hl : Option (RId × List Step)} {id : RId} (hh : ∀ p, hl ≠ some (id, p)) : ∀ {t : Ty} {m : Mask} {p : List Step} {x : t.den} {cs : List Value}, ORep g w hl id t m p x cs → ∀ v ∈ cs, v.oneCell' = true
 | .list t, .own m, p, xs, cs, h => by
  rcases h with ⟨h, _⟩ | ⟨_, h, h3⟩
  · exact absurd h (hh _)
  · subst h
    rcases h3 with ⟨h, _⟩ | ⟨_, _, _, _, h, _⟩ <;> simp [h, Value.oneCell']
 | .prod a b, .prod ma mb, p, x, cs, ⟨c, d, e, h1, h2⟩ => by
  subst e
  intro v hv
  rcases List.mem_append.1 hv with hv | hv
  · exact h1.one hh v hv
  · exact h2.one hh v hv
 | .list t, .shr, p, xs, cs, h => SRep.one (t := .list t) h
 | .list t, .prod _ _, p, xs, cs, h => SRep.one (t := .list t) h
 | .prod a b, .shr, p, x, cs, h => SRep.one (t := .prod a b) h
 | .prod a b, .own _, p, x, cs, h => SRep.one (t := .prod a b) h
 | .int k, _, p, x, cs, h => SRep.one (t := .int k) h
 | .bool, _, p, x, cs, h => SRep.one (t := .bool) h
 | .str, _, p, x, cs, h => SRep.one (t := .str) h
 | .unit, _, p, x, cs, h => SRep.one (t := .unit) h
theorem wrap_cells {t : Ty} {cs : List Value} (hl : cs.length = t.size) (hu : 0 < t.size) (h1 : ∀ v ∈ cs, v.oneCell' = true) : (wrap t cs).cells = cs.toArray := by
 have one : cs.length = 1 → (cs.headD undef).cells = cs.toArray := by
  intro e
  cases cs with
  | nil => simp at e
  | cons c l =>
   have : l = [] := by simpa using e
   subst this
   have := h1 c (by simp)
   cases c <;> first | rfl | (simp [Value.oneCell'] at this)
 cases t <;> simp only [wrap] <;> first | exact one hl | rfl | (simp [Ty.size] at hu)
theorem run_storeVar {tab : Tab} (ht : TabOk P tab) {T : TypeId} {i : TI} (hi : tab.ti T = some i) {b : Addr} (hb : b.spot = none) {c : Array Value} {e : TypeId} (hc : w.heap[b.block]? = some (.cells c e (0, 0))) {cs : List Value} (hl : cs.length = i.ty.size)
  (hfit : b.off + cs.length ≤ c.size) (h1 : ∀ v ∈ cs, v.oneCell' = true) :
  (Instr.storeAt T (.pointer (some b)) (wrap i.ty cs)).run P w = .ok () (w.setRow b.block (c.toList.take b.off ++ cs ++ c.toList.drop (b.off + cs.length)).toArray) := by
 have hpos := (ht T i hi).pos
 have hst := run_storeCells_at P b.block b.off e cs 0 c w hc (by simpa using hfit) h1
 have hb' : (⟨b.block, b.off, none⟩ : Addr) = b := by cases b; simp at hb; subst hb; rfl
 rw [hb'] at hst
 simp only [Nat.add_zero] at hst
 simp [Instr.storeAt, Instr.sureAddr, storeVar, sizeOf_ok ht hi, wrap_cells hl hpos h1, hl, hst]
theorem R.spot (h : R g0 w0 N s g a w) {id : Id} {o : Ob} (ho : s.obj id = some o) {p : List Step} {om : Mask} {ov : Val} (hroot : o.root = some (om, ov)) {m : Mask} {v : Val} (hget : get p om ov = some (m, v)) (hcl : Clear s.hl (some id) [] p) {ad : Addr} (hr : AddrRoot g id o.sig p ad) :
  ad.spot = none ∧ (∃ c e, w.heap[ad.block]? = some (.cells c e (0, 0))) ∧ (∃ q0, g.own ad.block = some (some id, q0) ∧ ∀ q, q0 = some q → ∃ r, p = q ++ r ∧ r ≠ []) ∧ ∃ ds, cellsAt w ad ds ∧ ds.length = v.t.size := by
 have hob := h.objs id o ho
 cases o with
 | fbox f => simp [Ob.root] at hroot
 | box mb vb =>
  simp only [Ob.root, Option.some.injEq, Prod.mk.injEq] at hroot
  obtain ⟨rfl, rfl⟩ := hroot
  obtain ⟨cs, c, e, h1, h2, h3, h4, h5⟩ := hob
  simp only [Ob.sig, AddrRoot] at hr
  obtain ⟨r1, r2, r3, ds, r4, r5⟩ := focus p _ _ [] _ cs _ ad m v hcl h1 ⟨c, e, h3⟩ h5 h4 hr hget
  refine ⟨r1, r2, ?_, ds, r4, r5.len⟩
  rcases r3 with r3 | ⟨q0, r3, r, e1, e2⟩
  · exact ⟨none, by rw [r3, h2], fun q e => by cases e⟩
  · exact ⟨some q0, by simpa using r3, fun q e => by injection e with e; subst e; exact ⟨r, e1, e2⟩⟩
 | vec mb t xs =>
  simp only [Ob.root, Option.some.injEq, Prod.mk.injEq] at hroot
  obtain ⟨rfl, rfl⟩ := hroot
  obtain ⟨hp, hr⟩ := hr
  cases p with
  | nil => exact absurd rfl hp
  | cons q p =>
   cases q with
   | idx i =>
    simp only [AddrOf, List.nil_append] at hr
    obtain ⟨hd, len, cap, e1, e2, e3, e4⟩ := hr
    simp only [get] at hget
    rcases hob with ⟨h3, _⟩ | ⟨a', cap', c, e, h4, h5, h6, h7, h8, h9, h10, h11⟩
    · rw [h3] at e1; cases e1
    · rw [h4] at e1
      obtain ⟨rfl, rfl, rfl⟩ : a' = hd ∧ List.length xs = len ∧ cap' = cap := by
       injection e1 with e1 e2 e3; injection e1 with e1; exact ⟨e1, e2, e3⟩
      obtain ⟨ds, d1, hi, d2⟩ := h11 i e3
      have hx : (xs : List t.den).getD i t.zero = xs[i] := by simp [List.getD, hi]
      rw [hx] at hget
      obtain ⟨r1, r2, r3, fs, r4, r5⟩ := focus p t mb [.idx i] _ ds _ ad m v hcl.tail (add_spot e2 _) (by rw [add_block]; exact ⟨c, e, h7⟩) d2 d1 e4 hget
      rw [add_block, h6] at r3
      refine ⟨r1, r2, ?_, fs, r4, r5.len⟩
      rcases r3 with r3 | ⟨q0, r3, r, e1, e2⟩
      · exact ⟨some [], r3, fun q e => by injection e with e; subst e; exact ⟨_, rfl, by simp⟩⟩
      · exact ⟨some (.idx i :: q0), by simpa using r3, fun q e => by injection e with e; subst e; exact ⟨r, by simp [e1], e2⟩⟩
   | fst => simp [AddrOf] at hr
   | snd => simp [AddrOf] at hr
   | arr i => simp [AddrOf, arrEl] at hr
theorem RootRep.set {id : Id} {o o' : Ob} {p : List Step} {om : Mask} {ov : Val} (hroot : o.root = some (om, ov)) {g' : Gh} {w' : World} {hl hl' : Option (RId × List Step)} {B of n : Nat} (W : Wr g w hl g' w' hl' (some id) p B of n) (hob : RootRep g w hl id o) (hbase : g'.base id = g.base id) (hcl : Clear hl (some id) [] p) {m0 : Mask} {v : Val} (hget : get p om ov = some (m0, v)) {b : Addr} (hr : AddrRoot g id o.sig p b)
  (hB : b.block = B) (hO : b.off = of) (hn : v.t.size = n) {m' : Mask} {y : v.t.den} {ds : List Value} (hy : ORep g' w' hl' (some id) v.t m' p y ds) (hd : cellsAt w' b ds) {M : Mask} (hM : setMask p om ov.t m' = some M) (hput : o.put M ⟨ov.t, setVal p ov ⟨v.t, y⟩⟩ = some o') : RootRep g' w' hl' id o' := by
 cases o with
 | fbox f => simp [Ob.root] at hroot
 | box mb vb =>
  simp only [Ob.root, Option.some.injEq, Prod.mk.injEq] at hroot
  obtain ⟨rfl, rfl⟩ := hroot
  simp only [Ob.put, castTo_self, Option.map_some, Option.some.injEq] at hput
  subst hput
  obtain ⟨cs, c, e, h1, h2, h3, h4, h5⟩ := hob
  simp only [Ob.sig, AddrRoot] at hr
  obtain ⟨cs', k1, k2, k3⟩ := ORep.set W p _ _ [] _ cs _ b m0 v y M ds rfl hcl h1 ⟨c, e, h3⟩ h5 h4 hr hget hB hO hn ⟨none, h2, fun q e => by cases e⟩ hy hd hM
  have hlab : g'.own (g.base id).block = some (some id, none) := by
   by_cases he : (g.base id).block = B
   · obtain ⟨L, l1, l2, _⟩ := W.lab
     rw [he] at h2 ⊢
     rw [l1] at h2
     rw [l2, h2]
   · exact (W.oth _ _ h2 he (fun r e => by cases e)).2
  have hblk : ∃ c', w'.heap[(g.base id).block]? = some (.cells c' e (0, 0)) := by
   by_cases he : (g.base id).block = B
   · obtain ⟨c1, c2, e', b1, b2, b3⟩ := W.blk
     rw [he] at h3 ⊢
     rw [b1] at h3
     injection h3 with h3
     injection h3 with h3 h3'
     subst h3 h3'
     exact ⟨c2, b2⟩
   · exact ⟨c, by rw [(W.oth _ _ h2 he (fun r e => by cases e)).1]; exact h3⟩
  obtain ⟨c', hc'⟩ := hblk
  exact ⟨cs', c', e, by rw [hbase]; exact h1, by rw [hbase]; exact hlab, by rw [hbase]; exact hc', by rw [hbase]; exact k1, k2⟩
 | vec mb t xs =>
  simp only [Ob.root, Option.some.injEq, Prod.mk.injEq] at hroot
  obtain ⟨rfl, rfl⟩ := hroot
  obtain ⟨hp, hr⟩ := hr
  cases p with
  | nil => exact absurd rfl hp
  | cons q p =>
   cases q with
   | idx i =>
    simp only [AddrOf, List.nil_append] at hr
    simp only [get] at hget
    simp only [setMask] at hM
    split at hM
    · rename_i q hq
      cases hqm : q == mb
      · simp [hqm] at hM
      · simp only [hqm, cond_true, Option.some.injEq] at hM
        have hqm : q = mb := by simpa using hqm
        subst hqm hM
        have hsv : setVal (.idx i :: p) ⟨.list t, xs⟩ ⟨v.t, y⟩ = List.set xs i (setVal p ⟨t, List.getD xs i t.zero⟩ ⟨v.t, y⟩) := by
         cases p <;> simp only [setVal]
        rw [hsv] at hput
        simp only [Ob.put, castTo_self, Option.map_some, Option.some.injEq] at hput
        subst hput
        exact LRep.set W rfl hcl.tail hob hr hget hB hO hn hy hd hq
    · cases hM
   | fst => simp [AddrOf] at hr
   | snd => simp [AddrOf] at hr
   | arr i => simp [AddrOf, arrEl] at hr
theorem wrap_congr {t u : Ty} {cs : List Value} (h : t.isProd = u.isProd) : wrap t cs = wrap u cs := by
 cases t <;> cases u <;> simp [Ty.isProd] at h <;> rfl
theorem takeBox_prod {s s' : St} {A B : TV} {m : Mask} {v : Val} (ht : s.takeBox (.pr A B) = some (m, v, s')) : v.t.isProd = true := by
 unfold St.takeBox at ht
 split at ht <;> try (cases ht; done)
 split at ht <;> try (cases ht; done)
 rename_i id _
 split at ht <;> try (cases ht; done)
 rename_i m0 v0 ho
 cases hf : s.free id
 · simp [hf] at ht
 · simp only [hf, cond_true] at ht
   split at ht <;> try (cases ht; done)
   rename_i m' v' htk
   simp only [Option.some.injEq, Prod.mk.injEq] at ht
   obtain ⟨rfl, rfl, rfl⟩ := ht
   obtain ⟨t0, x0⟩ := v0
   cases t0 <;> simp only [takeIn] at htk <;> try (cases htk; done)
   split at htk <;> try (cases htk; done)
   split at htk <;> try (cases htk; done)
   simp only [Option.some.injEq, Prod.mk.injEq] at htk
   obtain ⟨rfl, rfl⟩ := htk
   rfl
theorem take_rep (h : R g0 w0 N s g a w) {A : TV} {mv : Value} (hA : TRep g w s.sig A mv) {want : Ty} {m : Mask} {v : Val} {s' : St} (ht : s.take want A = some (m, v, s')) (q : List Step) :
  ∃ g' cs, mv = wrap v.t cs ∧ R g0 w0 N s' g' a w ∧ ORep g' w none none v.t m q v.x cs ∧ Le g w g' w ∧ Float g g' q ∧ (∀ id o, s'.obj id = some o → s.obj id = some o) := by
 have fin : ∀ {t : Ty} {cs : List Value}, TC g w s.sig A t cs → mv = wrap t cs → t.isProd = v.t.isProd → ∃ g' cs, mv = wrap v.t cs ∧ R g0 w0 N s' g' a w ∧ ORep g' w none none v.t m q v.x cs ∧ Le g w g' w ∧ Float g g' q ∧ (∀ id o, s'.obj id = some o → s.obj id = some o) := by
  intro t cs hc e hp
  obtain ⟨g', k1, k2, k3, k4, k5⟩ := take_sound A want t cs s s' g q m v ht h hc
  exact ⟨g', cs, by rw [e, wrap_congr hp], k1, k2, k3, k4, k5⟩
 cases A with
 | val v0 =>
  simp only [St.take, Option.some.injEq, Prod.mk.injEq] at ht
  obtain ⟨rfl, rfl, rfl⟩ := ht
  obtain ⟨cs, h1, h2⟩ := hA
  exact fin ⟨rfl, h1⟩ h2 rfl
 | nil =>
  cases want <;> simp only [St.take, Option.some.injEq, Prod.mk.injEq] at ht <;> try (cases ht; done)
  obtain ⟨rfl, rfl, rfl⟩ := ht
  rename_i t
  exact fin (t := .list t) (cs := [.slice none 0 0]) rfl hA rfl
 | ref id p =>
  obtain ⟨t, cs, h1, h2⟩ := hA
  refine fin h1 h2 ?_
  cases t <;> simp only [TC] at h1
  simp only [St.take] at ht
  split at ht
  · split at ht
    · cases hf : s.free id
      · simp [hf] at ht
      · simp only [hf, cond_true, Option.some.injEq, Prod.mk.injEq] at ht
        obtain ⟨_, rfl, _⟩ := ht
        rfl
    · cases ht
  · split at ht
    · split at ht
      · simp only [Option.some.injEq, Prod.mk.injEq] at ht
        obtain ⟨_, rfl, _⟩ := ht
        rfl
      · cases ht
    · cases ht
 | sub id p lo hi =>
  obtain ⟨t, cs, h1, h2⟩ := hA
  refine fin h1 h2 ?_
  cases t <;> simp only [TC] at h1
  simp only [St.take] at ht
  split at ht
  · split at ht
    · cases hf : s.free id
      · simp [hf] at ht
      · simp only [hf, cond_true, Option.some.injEq, Prod.mk.injEq] at ht
        obtain ⟨_, rfl, _⟩ := ht
        rfl
    · cases ht
  · split at ht
    · split at ht
      · simp only [Option.some.injEq, Prod.mk.injEq] at ht
        obtain ⟨_, rfl, _⟩ := ht
        rfl
      · cases ht
    · cases ht
 | pr A B =>
  obtain ⟨t, cs, h1, h2⟩ := hA
  refine fin h1 h2 ?_
  cases t <;> simp only [TC] at h1
  rw [St.take.eq_def] at ht
  simp only at ht
  split at ht
  · rename_i r hr
    simp only [Option.some.injEq] at ht
    subst ht
    exact (takeBox_prod hr).symm
  cases want <;> simp only at ht <;> try (cases ht; done)
  split at ht
  · split at ht
    · simp only [Option.some.injEq, Prod.mk.injEq] at ht
      obtain ⟨_, rfl, _⟩ := ht
      rfl
    · cases ht
  · cases ht
 | _ => cases want <;> simp [St.take] at ht
theorem setRow_cells {b o : Nat} {c : Array Value} {e : TypeId} {cs : List Value} (hc : w.heap[b]? = some (.cells c e (0, 0))) (hfit : o + cs.length ≤ c.size) :
  cellsAt (w.setRow b (c.toList.take o ++ cs ++ c.toList.drop (o + cs.length)).toArray) ⟨b, o, none⟩ cs ∧
  (∀ off, off < o ∨ o + cs.length ≤ off → (w.setRow b (c.toList.take o ++ cs ++ c.toList.drop (o + cs.length)).toArray).cell? ⟨b, off, none⟩ = w.cell? ⟨b, off, none⟩) := by
 have hl : (c.toList.take o).length = o := by simp; omega
 have hh := setRow_heap w b c (c.toList.take o ++ cs ++ c.toList.drop (o + cs.length)).toArray e (0, 0) hc
 constructor
 · intro j hj
   rw [add_eq rfl]
   unfold World.cell?
   rw [hh]
   simp only [Option.isSome_none, Bool.false_eq_true, if_false, List.getElem?_toArray]
   rw [List.append_assoc, List.getElem?_append_right (by rw [hl]; omega), hl, List.getElem?_append_left (by omega)]
   simp [hj]
 · intro off hoff
   unfold World.cell?
   rw [hh, hc]
   simp only [Option.isSome_none, Bool.false_eq_true, if_false, List.getElem?_toArray]
   rcases hoff with hoff | hoff
   · rw [List.append_assoc, List.getElem?_append_left (by rw [hl]; omega)]
     simp [List.getElem?_take, hoff]
   · rw [List.getElem?_append_right (by simp; omega), List.getElem?_drop]
     have : o + cs.length + (off - (List.take o c.toList ++ cs).length) = off := by
      rw [List.length_append, hl]; omega
     rw [this]
     simp
theorem fit_of_cells {ad : Addr} {ds : List Value} {c : Array Value} {e : TypeId} (ha : ad.spot = none) (hc : w.heap[ad.block]? = some (.cells c e (0, 0))) (h : cellsAt w ad ds) (hp : 0 < ds.length) : ad.off + ds.length ≤ c.size := by
 have := h (ds.length - 1) (by omega)
 rw [add_eq ha] at this
 unfold World.cell? at this
 rw [hc] at this
 simp only [Option.isSome_none, Bool.false_eq_true, if_false] at this
 obtain ⟨k, _⟩ := Array.getElem?_eq_some_iff.1 this
 omega
theorem setRow_le {g : Gh} {b : Nat} {cs : Array Value} (hb : g.own b ≠ none ∧ g.own b ≠ some (none, none)) : Le g w g (w.setRow b cs) :=
 ⟨rfl, rfl, rfl, by simp [World.setRow], fun k hk e => ⟨setRow_other w b k cs (fun e' => hb.1 (by rw [← e']; exact e)), e⟩, fun k hk e => ⟨setRow_other w b k cs (fun e' => hb.2 (by rw [← e']; exact e)), e⟩⟩
theorem put_sig {id : Id} {o o' : Ob} (ho : s.obj id = some o) {m : Mask} {v : Val} (hp : o.put m v = some o') : o'.sig = o.sig := by
 cases o with
 | vec mb t xs =>
  simp only [Ob.put] at hp
  split at hp
  · cases hc : castTo (.list t) v with
    | none => simp [hc] at hp
    | some y => simp only [hc, Option.map_some, Option.some.injEq] at hp; subst hp; rfl
  · cases hp
 | box mb w =>
  simp only [Ob.put] at hp
  cases hc : castTo w.t v with
  | none => simp [hc] at hp
  | some y => simp only [hc, Option.map_some, Option.some.injEq] at hp; subst hp; rfl
 | fbox f => simp [Ob.put] at hp
theorem TC.unseen {g g' : Gh} {w w' : World} {sg : Id → Option Sig} {id : Id} {root : Bool} (hl : Le g w g' w') (hf : ∀ i, i ≠ id → Fits g g' sg sg i) (hb : g'.base id = g.base id) (hr : root = false → g'.hdr (some id) [] = g.hdr (some id) []) :
  ∀ (v : TV) (t : Ty) (cs : List Value), v.sees root id = false → (∀ s, sg id = some s → root = true → ∀ u, s ≠ .vec u) → TC g w sg v t cs → TC g' w' sg v t cs
 | .val v, t, cs, _, _, ⟨h1, h2⟩ => ⟨h1, h2.le hl⟩
 | .nil, .list t, cs, _, _, h => h
 | .ref i p, .list t, cs, hs, _, ⟨h1, h2⟩ => by
  by_cases e : i = id
  · subst e
    simp only [TV.sees, sameId_eq.2 rfl, Bool.true_and, Bool.or_eq_false_iff, Bool.not_eq_false'] at hs
    have hp : p = [] := by simpa using hs.2
    subst hp
    refine ⟨by rw [hr hs.1]; exact h1, fun s hsg => ⟨(h2 s hsg).1, ?_⟩⟩
    rcases (h2 s hsg).2 with k | ⟨c, k⟩
    · exact .inl k
    · refine .inr ⟨c, ?_⟩
      cases s with
      | vec u => exact absurd rfl k.1
      | box u => simpa [AddrRoot, AddrOf, hb] using k
      | fbox => simpa [AddrRoot, hb] using k
  · exact ⟨by rw [(hf i e).hdr]; exact h1, fun s hsg => ⟨(h2 s hsg).1, (h2 s hsg).2.congr (hf i e).hdr (hf i e).base⟩⟩
 | .sub i p lo hi, .list t, cs, hs, _, ⟨h1, h2, h3⟩ => by
  by_cases e : i = id
  · subst e
    simp only [TV.sees, sameId_eq.2 rfl, Bool.true_and, Bool.or_eq_false_iff, Bool.not_eq_false'] at hs
    have hp : p = [] := by simpa using hs.2
    subst hp
    refine ⟨fun s hsg => ⟨(h1 s hsg).1, ?_⟩, h2, by rw [hr hs.1]; exact h3⟩
    rcases (h1 s hsg).2 with k | ⟨c, k⟩
    · exact .inl k
    · refine .inr ⟨c, ?_⟩
      cases s with
      | vec u => exact absurd rfl k.1
      | box u => simpa [AddrRoot, AddrOf, hb] using k
      | fbox => simpa [AddrRoot, hb] using k
  · exact ⟨fun s hsg => ⟨(h1 s hsg).1, (h1 s hsg).2.congr (hf i e).hdr (hf i e).base⟩, h2, by rw [(hf i e).hdr]; exact h3⟩
 | .pr a b, .prod ta tb, cs, hs, hv, ⟨c, d, e, l1, l2, h1, h2⟩ => by
  simp only [TV.sees, Bool.or_eq_false_iff] at hs
  exact ⟨c, d, e, l1, l2, TC.unseen hl hf hb hr a ta c hs.1 hv h1, TC.unseen hl hf hb hr b tb d hs.2 hv h2⟩
 | .dead, t, cs, _, _, h => by cases t <;> exact h
theorem TRep1.unseen {g g' : Gh} {w w' : World} {sg : Id → Option Sig} {id : Id} {root : Bool} (hl : Le g w g' w') (hf : ∀ i, i ≠ id → Fits g g' sg sg i) (hb : g'.base id = g.base id) (hr : root = false → g'.hdr (some id) [] = g.hdr (some id) [])
  (v : TV) (mv : Value) (hs : v.sees root id = false) (hv : ∀ s, sg id = some s → root = true → ∀ u, s ≠ .vec u) (h : TRep1 g w sg v mv) : TRep1 g' w' sg v mv := by
 have hbase : ∀ i, g'.base i = g.base i := fun i => by
  by_cases e : i = id
  · subst e; exact hb
  · exact (hf i e).base
 cases v with
 | dead => trivial
 | nil => exact h
 | val v => obtain ⟨cs, h1, h2⟩ := h; exact ⟨cs, h1.le hl, h2⟩
 | addr i p =>
  obtain ⟨a, h1, h2⟩ := h
  refine ⟨a, h1, fun s hsg => ?_⟩
  by_cases e : i = id
  · subst e
    simp only [TV.sees, sameId_eq.2 rfl, Bool.true_and, Bool.not_eq_false'] at hs
    have hp : p = [] := by simpa using hs
    subst hp
    have k := h2 s hsg
    cases s with
    | vec u => exact absurd rfl k.1
    | box u => simpa [AddrRoot, AddrOf, hb] using k
    | fbox => simpa [AddrRoot, hb] using k
  · exact (h2 s hsg).congr (hf i e).hdr (hf i e).base
 | saddr v =>
  obtain ⟨a, cs, h1, h2, h3, h4, h5, h6⟩ := h
  have ⟨e1, o1⟩ : w'.heap[a.block]? = w.heap[a.block]? ∧ (g'.own a.block = none ∨ g'.own a.block = some (none, none)) := by
   rcases h3 with h3 | h3
   · exact ⟨(hl.keep _ h4 h3).1, .inl (hl.keep _ h4 h3).2⟩
   · exact ⟨(hl.hid _ h4 h3).1, .inr (hl.hid _ h4 h3).2⟩
  exact ⟨a, cs, h1, h2, o1, Nat.lt_of_lt_of_le h4 hl.size, cellsAt_of e1 h5, h6.le hl⟩
 | tad A =>
  obtain ⟨a, t, cs, h1, h2, h3, h4, h5, h6⟩ := h
  have ⟨e1, o1⟩ : w'.heap[a.block]? = w.heap[a.block]? ∧ (g'.own a.block = none ∨ g'.own a.block = some (none, none)) := by
   rcases h3 with h3 | h3
   · exact ⟨(hl.keep _ h4 h3).1, .inl (hl.keep _ h4 h3).2⟩
   · exact ⟨(hl.hid _ h4 h3).1, .inr (hl.hid _ h4 h3).2⟩
  exact ⟨a, t, cs, h1, h2, o1, Nat.lt_of_lt_of_le h4 hl.size, cellsAt_of e1 h5, h6.unseen hl hf hb hr _ _ _ (by simpa [TV.sees] using hs) hv⟩
 | fn f =>
  have : (f.caps.map fun i => Value.pointer (some (g.base i))) = f.caps.map fun i => Value.pointer (some (g'.base i)) :=
   List.map_congr_left fun i hi => by rw [hbase]
  simp only [TRep1, FnVal] at h ⊢
  rw [h, this]
 | nilfn => exact h
 | tup l => exact h.elim
 | ref i p => obtain ⟨t, cs, h1, h2⟩ := h; exact ⟨t, cs, h1.unseen hl hf hb hr _ _ _ hs hv, h2⟩
 | sub i p lo hi => obtain ⟨t, cs, h1, h2⟩ := h; exact ⟨t, cs, h1.unseen hl hf hb hr _ _ _ hs hv, h2⟩
 | pr a b => obtain ⟨t, cs, h1, h2⟩ := h; exact ⟨t, cs, h1.unseen hl hf hb hr _ _ _ hs hv, h2⟩
theorem seesAny_mem {id : Id} {d : Bool} : ∀ {l : List TV} {a : TV}, a ∈ l → TV.sees.seesAny d id l = false → a.sees d id = false
 | _ :: l, a, h, e => by
  simp only [TV.sees.seesAny, Bool.or_eq_false_iff] at e
  rcases List.mem_cons.1 h with rfl | h
  · exact e.1
  · exact seesAny_mem h e.2
theorem TRep.unseen {g g' : Gh} {w w' : World} {sg : Id → Option Sig} {id : Id} {root : Bool} (hl : Le g w g' w') (hf : ∀ i, i ≠ id → Fits g g' sg sg i) (hb : g'.base id = g.base id) (hr : root = false → g'.hdr (some id) [] = g.hdr (some id) [])
  (v : TV) (mv : Value) (hs : v.sees root id = false) (hv : ∀ s, sg id = some s → root = true → ∀ u, s ≠ .vec u) (h : TRep g w sg v mv) : TRep g' w' sg v mv := by
 cases v with
 | tup l =>
  obtain ⟨vs, h1, h2⟩ := h
  exact ⟨vs, h1, All2.imp (fun a ha b k => TRep1.unseen hl hf hb hr a b (seesAny_mem ha (by simpa [TV.sees] using hs)) hv k) h2⟩
 | dead => exact TRep1.unseen hl hf hb hr .dead mv hs hv h
 | nil => exact TRep1.unseen hl hf hb hr .nil mv hs hv h
 | val v => exact TRep1.unseen hl hf hb hr (.val v) mv hs hv h
 | ref i p => exact TRep1.unseen hl hf hb hr (.ref i p) mv hs hv h
 | sub i p l k => exact TRep1.unseen hl hf hb hr (.sub i p l k) mv hs hv h
 | addr i p => exact TRep1.unseen hl hf hb hr (.addr i p) mv hs hv h
 | saddr v => exact TRep1.unseen hl hf hb hr (.saddr v) mv hs hv h
 | tad A => exact TRep1.unseen hl hf hb hr (.tad A) mv hs hv h
 | fn f => exact TRep1.unseen hl hf hb hr (.fn f) mv hs hv h
 | nilfn => exact TRep1.unseen hl hf hb hr .nilfn mv hs hv h
 | pr x y => exact TRep1.unseen hl hf hb hr (.pr x y) mv hs hv h
theorem divg_app : ∀ (p r : List Step), divg p (p ++ r) = false
 | [], r => by cases r <;> rfl
 | .fst :: p, r => by simpa [divg] using divg_app p r
 | .snd :: p, r => by simpa [divg] using divg_app p r
 | .idx _ :: p, r => rfl
 | .arr _ :: p, r => rfl
theorem divg_pre : ∀ {p z : List Step}, (∀ r, z ≠ p ++ r) ∨ divg p z = false
 | p, z => by
  by_cases h : divg p z = false
  · exact .inr h
  · exact .inl fun r e => h (by rw [e]; exact divg_app p r)
theorem divg_prefix : ∀ {p z z' : List Step}, divg p (z ++ z') = true → ∀ r, z ≠ p ++ r
 | p, z, z', h, r, e => by
  rw [e, List.append_assoc, divg_app] at h
  cases h
theorem AddrOf.apart {g g' : Gh} {id : RId} : ∀ (p : List Step) (t : Ty) (pre : List Step) (a b : Addr), (∀ z z', p = z ++ z' → g'.hdr id (pre ++ z) = g.hdr id (pre ++ z)) → AddrOf g id t pre p a b → AddrOf g' id t pre p a b
 | [], t, pre, a, b, h, e => by simpa [AddrOf] using e
 | s :: p, t, pre, a, b, h, e => by
  have hs : ∀ z z', p = z ++ z' → g'.hdr id (pre ++ [s] ++ z) = g.hdr id (pre ++ [s] ++ z) := fun z z' e => by
   rw [List.append_assoc]
   exact h (s :: z) z' (by simp [e])
  cases s with
  | fst => cases t <;> simp only [AddrOf] at e ⊢ <;> first | exact AddrOf.apart p _ _ _ _ hs e | exact e
  | snd => cases t <;> simp only [AddrOf] at e ⊢ <;> first | exact AddrOf.apart p _ _ _ _ hs e | exact e
  | idx i =>
   cases t <;> simp only [AddrOf] at e ⊢ <;> try exact e
   obtain ⟨hd, len, cap, e1, e2, e3, e4⟩ := e
   have h0 := h [] _ rfl
   simp only [List.append_nil] at h0
   exact ⟨hd, len, cap, by rw [h0]; exact e1, e2, e3, AddrOf.apart p _ _ _ _ hs e4⟩
  | arr i =>
   cases t <;> simp only [AddrOf] at e ⊢ <;> exact e
theorem AddrRoot.apart {g g' : Gh} {id : Id} {p q : List Step} (hd : divg p q = true) (h : ∀ z, (∀ r, z ≠ p ++ r) → g'.hdr (some id) z = g.hdr (some id) z) (hb : g'.base id = g.base id) {s : Sig} {a : Addr} (e : AddrRoot g id s q a) : AddrRoot g' id s q a := by
 have hz : ∀ z z', q = z ++ z' → g'.hdr (some id) ([] ++ z) = g.hdr (some id) ([] ++ z) := fun z z' e => by
  simp only [List.nil_append]
  exact h z (divg_prefix (z' := z') (by rw [← e]; exact hd))
 cases s with
 | vec t => exact ⟨e.1, AddrOf.apart _ _ _ _ _ hz e.2⟩
 | box t => simp only [AddrRoot, hb] at e ⊢; exact AddrOf.apart _ _ _ _ _ hz e
 | fbox => simpa [AddrRoot, hb] using e
theorem divg_self {p q : List Step} (hd : divg p q = true) : ∀ r, q ≠ p ++ r := fun r e => by rw [e, divg_app] at hd; cases hd
theorem TC.unseenP {g g' : Gh} {w w' : World} {sg : Id → Option Sig} {id : Id} {root : Bool} {pl : List Step} (hl : Le g w g' w') (hf : ∀ i, i ≠ id → Fits g g' sg sg i) (hb : g'.base id = g.base id) (hr : root = false → g'.hdr (some id) [] = g.hdr (some id) []) (hP : ∀ z, (∀ r, z ≠ pl ++ r) → g'.hdr (some id) z = g.hdr (some id) z) :
  ∀ (v : TV) (t : Ty) (cs : List Value), v.seesP pl root id = false → (∀ s, sg id = some s → root = true → ∀ u, s ≠ .vec u) → TC g w sg v t cs → TC g' w' sg v t cs
 | .val v, t, cs, _, _, ⟨h1, h2⟩ => ⟨h1, h2.le hl⟩
 | .nil, .list t, cs, _, _, h => h
 | .ref i p, .list t, cs, hs, _, ⟨h1, h2⟩ => by
  by_cases e : i = id
  · subst e
    simp only [TV.seesP, sameId_eq.2 rfl, Bool.true_and, Bool.and_eq_false_iff, Bool.or_eq_false_iff, Bool.not_eq_false'] at hs
    rcases hs with hs | hs
    case inr => exact ⟨by rw [hP _ (divg_self hs)]; exact h1, fun s hsg => ⟨(h2 s hsg).1, (h2 s hsg).2.imp (fun k => k) (fun ⟨c, k⟩ => ⟨c, k.apart hs hP hb⟩)⟩⟩
    have hp : p = [] := by simpa using hs.2
    subst hp
    refine ⟨by rw [hr hs.1]; exact h1, fun s hsg => ⟨(h2 s hsg).1, ?_⟩⟩
    rcases (h2 s hsg).2 with k | ⟨c, k⟩
    · exact .inl k
    · refine .inr ⟨c, ?_⟩
      cases s with
      | vec u => exact absurd rfl k.1
      | box u => simpa [AddrRoot, AddrOf, hb] using k
      | fbox => simpa [AddrRoot, hb] using k
  · exact ⟨by rw [(hf i e).hdr]; exact h1, fun s hsg => ⟨(h2 s hsg).1, (h2 s hsg).2.congr (hf i e).hdr (hf i e).base⟩⟩
 | .sub i p lo hi, .list t, cs, hs, _, ⟨h1, h2, h3⟩ => by
  by_cases e : i = id
  · subst e
    simp only [TV.seesP, sameId_eq.2 rfl, Bool.true_and, Bool.and_eq_false_iff, Bool.or_eq_false_iff, Bool.not_eq_false'] at hs
    rcases hs with hs | hs
    case inr => exact ⟨fun s hsg => ⟨(h1 s hsg).1, (h1 s hsg).2.imp (fun k => k) (fun ⟨c, k⟩ => ⟨c, k.apart hs hP hb⟩)⟩, h2, by rw [hP _ (divg_self hs)]; exact h3⟩
    have hp : p = [] := by simpa using hs.2
    subst hp
    refine ⟨fun s hsg => ⟨(h1 s hsg).1, ?_⟩, h2, by rw [hr hs.1]; exact h3⟩
    rcases (h1 s hsg).2 with k | ⟨c, k⟩
    · exact .inl k
    · refine .inr ⟨c, ?_⟩
      cases s with
      | vec u => exact absurd rfl k.1
      | box u => simpa [AddrRoot, AddrOf, hb] using k
      | fbox => simpa [AddrRoot, hb] using k
  · exact ⟨fun s hsg => ⟨(h1 s hsg).1, (h1 s hsg).2.congr (hf i e).hdr (hf i e).base⟩, h2, by rw [(hf i e).hdr]; exact h3⟩
 | .pr a b, .prod ta tb, cs, hs, hv, ⟨c, d, e, l1, l2, h1, h2⟩ => by
  simp only [TV.seesP, Bool.or_eq_false_iff] at hs
  exact ⟨c, d, e, l1, l2, TC.unseenP hl hf hb hr hP a ta c hs.1 hv h1, TC.unseenP hl hf hb hr hP b tb d hs.2 hv h2⟩
 | .dead, t, cs, _, _, h => by cases t <;> exact h
theorem TRep1.unseenP {g g' : Gh} {w w' : World} {sg : Id → Option Sig} {id : Id} {root : Bool} {pl : List Step} (hl : Le g w g' w') (hf : ∀ i, i ≠ id → Fits g g' sg sg i) (hb : g'.base id = g.base id) (hr : root = false → g'.hdr (some id) [] = g.hdr (some id) []) (hP : ∀ z, (∀ r, z ≠ pl ++ r) → g'.hdr (some id) z = g.hdr (some id) z)
  (v : TV) (mv : Value) (hs : v.seesP pl root id = false) (hv : ∀ s, sg id = some s → root = true → ∀ u, s ≠ .vec u) (h : TRep1 g w sg v mv) : TRep1 g' w' sg v mv := by
 have hbase : ∀ i, g'.base i = g.base i := fun i => by
  by_cases e : i = id
  · subst e; exact hb
  · exact (hf i e).base
 cases v with
 | dead => trivial
 | nil => exact h
 | val v => obtain ⟨cs, h1, h2⟩ := h; exact ⟨cs, h1.le hl, h2⟩
 | addr i p =>
  obtain ⟨a, h1, h2⟩ := h
  refine ⟨a, h1, fun s hsg => ?_⟩
  by_cases e : i = id
  · subst e
    simp only [TV.seesP, sameId_eq.2 rfl, Bool.true_and, Bool.and_eq_false_iff, Bool.not_eq_false'] at hs
    rcases hs with hs | hs
    case inr => exact (h2 s hsg).apart hs hP hb
    have hp : p = [] := by simpa using hs
    subst hp
    have k := h2 s hsg
    cases s with
    | vec u => exact absurd rfl k.1
    | box u => simpa [AddrRoot, AddrOf, hb] using k
    | fbox => simpa [AddrRoot, hb] using k
  · exact (h2 s hsg).congr (hf i e).hdr (hf i e).base
 | saddr v =>
  obtain ⟨a, cs, h1, h2, h3, h4, h5, h6⟩ := h
  have ⟨e1, o1⟩ : w'.heap[a.block]? = w.heap[a.block]? ∧ (g'.own a.block = none ∨ g'.own a.block = some (none, none)) := by
   rcases h3 with h3 | h3
   · exact ⟨(hl.keep _ h4 h3).1, .inl (hl.keep _ h4 h3).2⟩
   · exact ⟨(hl.hid _ h4 h3).1, .inr (hl.hid _ h4 h3).2⟩
  exact ⟨a, cs, h1, h2, o1, Nat.lt_of_lt_of_le h4 hl.size, cellsAt_of e1 h5, h6.le hl⟩
 | tad A =>
  obtain ⟨a, t, cs, h1, h2, h3, h4, h5, h6⟩ := h
  have ⟨e1, o1⟩ : w'.heap[a.block]? = w.heap[a.block]? ∧ (g'.own a.block = none ∨ g'.own a.block = some (none, none)) := by
   rcases h3 with h3 | h3
   · exact ⟨(hl.keep _ h4 h3).1, .inl (hl.keep _ h4 h3).2⟩
   · exact ⟨(hl.hid _ h4 h3).1, .inr (hl.hid _ h4 h3).2⟩
  exact ⟨a, t, cs, h1, h2, o1, Nat.lt_of_lt_of_le h4 hl.size, cellsAt_of e1 h5, h6.unseenP hl hf hb hr hP _ _ _ (by simpa [TV.seesP] using hs) hv⟩
 | fn f =>
  have : (f.caps.map fun i => Value.pointer (some (g.base i))) = f.caps.map fun i => Value.pointer (some (g'.base i)) :=
   List.map_congr_left fun i hi => by rw [hbase]
  simp only [TRep1, FnVal] at h ⊢
  rw [h, this]
 | nilfn => exact h
 | tup l => exact h.elim
 | ref i p => obtain ⟨t, cs, h1, h2⟩ := h; exact ⟨t, cs, h1.unseenP hl hf hb hr hP _ _ _ hs hv, h2⟩
 | sub i p lo hi => obtain ⟨t, cs, h1, h2⟩ := h; exact ⟨t, cs, h1.unseenP hl hf hb hr hP _ _ _ hs hv, h2⟩
 | pr a b => obtain ⟨t, cs, h1, h2⟩ := h; exact ⟨t, cs, h1.unseenP hl hf hb hr hP _ _ _ hs hv, h2⟩
theorem seesPAny_mem {id : Id} {d : Bool} {pl : List Step} : ∀ {l : List TV} {a : TV}, a ∈ l → TV.seesP.seesPAny pl d id l = false → a.seesP pl d id = false
 | _ :: l, a, h, e => by
  simp only [TV.seesP.seesPAny, Bool.or_eq_false_iff] at e
  rcases List.mem_cons.1 h with rfl | h
  · exact e.1
  · exact seesPAny_mem h e.2
theorem TRep.unseenP {g g' : Gh} {w w' : World} {sg : Id → Option Sig} {id : Id} {root : Bool} {pl : List Step} (hl : Le g w g' w') (hf : ∀ i, i ≠ id → Fits g g' sg sg i) (hb : g'.base id = g.base id) (hr : root = false → g'.hdr (some id) [] = g.hdr (some id) []) (hP : ∀ z, (∀ r, z ≠ pl ++ r) → g'.hdr (some id) z = g.hdr (some id) z)
  (v : TV) (mv : Value) (hs : v.seesP pl root id = false) (hv : ∀ s, sg id = some s → root = true → ∀ u, s ≠ .vec u) (h : TRep g w sg v mv) : TRep g' w' sg v mv := by
 cases v with
 | tup l =>
  obtain ⟨vs, h1, h2⟩ := h
  exact ⟨vs, h1, All2.imp (fun a ha b k => TRep1.unseenP hl hf hb hr hP a b (seesPAny_mem ha (by simpa [TV.seesP] using hs)) hv k) h2⟩
 | dead => exact TRep1.unseenP hl hf hb hr hP .dead mv hs hv h
 | nil => exact TRep1.unseenP hl hf hb hr hP .nil mv hs hv h
 | val v => exact TRep1.unseenP hl hf hb hr hP (.val v) mv hs hv h
 | ref i p => exact TRep1.unseenP hl hf hb hr hP (.ref i p) mv hs hv h
 | sub i p l k => exact TRep1.unseenP hl hf hb hr hP (.sub i p l k) mv hs hv h
 | addr i p => exact TRep1.unseenP hl hf hb hr hP (.addr i p) mv hs hv h
 | saddr v => exact TRep1.unseenP hl hf hb hr hP (.saddr v) mv hs hv h
 | tad A => exact TRep1.unseenP hl hf hb hr hP (.tad A) mv hs hv h
 | fn f => exact TRep1.unseenP hl hf hb hr hP (.fn f) mv hs hv h
 | nilfn => exact TRep1.unseenP hl hf hb hr hP .nilfn mv hs hv h
 | pr x y => exact TRep1.unseenP hl hf hb hr hP (.pr x y) mv hs hv h
theorem R.write (h : R g0 w0 N s g a w) {id : Id} {o o' : Ob} (hobj : s.obj id = some o) (hos : o'.sig = o.sig) {g2 : Gh} {w2 : World} (hle : Le g w g2 w2) (hs : ∀ i, i ≠ id → Same g w g2 w2 (some i)) (hbase : g2.base id = g.base id) (hv : ∀ b o, g2.own b = some o → b < w2.heap.size)
  {s2 : St} (ht : ∀ t, s2.tmp t = s.tmp t ∨ s2.tmp t = .dead)
  (hd : (∀ q, g2.hdr (some id) q = g.hdr (some id) q) ∨ (∃ root, (root = false → g2.hdr (some id) [] = g.hdr (some id) []) ∧ (root = true → ∀ u, o.sig ≠ .vec u) ∧ ∀ t, (s2.tmp t).sees root id = false) ∨ (∃ root pl, (root = false → g2.hdr (some id) [] = g.hdr (some id) []) ∧ (∀ z, (∀ r, z ≠ pl ++ r) → g2.hdr (some id) z = g.hdr (some id) z) ∧ (root = true → ∀ u, o.sig ≠ .vec u) ∧ ∀ t, (s2.tmp t).seesP pl root id = false))
  (hob : ∀ i, s2.obj i = if i = id then some o' else s.obj i) (hh : ∀ i, i ≠ id → ∀ r, s2.hl = some (some i, r) ↔ s.hl = some (some i, r)) (ho : RootRep g2 w2 s2.hl id o') : R g0 w0 N s2 g2 a w2 := by
 have hsig : s2.sig = s.sig := funext fun i => by
  simp only [St.sig, hob]
  split
  · rename_i e; subst e; simp [hobj, hos]
  · rfl
 have hfit : ∀ i, i ≠ id → Fits g g2 s.sig s.sig i := fun i hi => ⟨(hs i hi).hdr, (hs i hi).base i rfl, fun _ k => k⟩
 exact {
  frame := h.frame.trans hle
  tmps := fun t => by
   rw [hsig]
   rcases hd with hd | ⟨root, h1, h2, h3⟩ | ⟨root, pl, h1, hP, h2, h3⟩
   case inr.inr =>
    rcases ht t with k | k
    · have h3 := h3 t
      rw [k] at h3 ⊢
      refine TRep.unseenP hle hfit hbase h1 hP _ _ h3 (fun sg hsg hr u e => ?_) (h.tmps t)
      simp only [St.sig, hobj, Option.map_some, Option.some.injEq] at hsg
      subst hsg
      exact h2 hr u e
    · rw [k]; trivial
   · rcases ht t with k | k
     · rw [k]
       refine TRep.le hle _ _ (fun i _ => ?_) (h.tmps t)
       by_cases e : i = id
       · subst e; exact ⟨hd, hbase, fun _ k => k⟩
       · exact hfit i e
     · rw [k]; trivial
   · rcases ht t with k | k
     · have h3 := h3 t
       rw [k] at h3 ⊢
       refine TRep.unseen hle hfit hbase h1 _ _ h3 (fun sg hsg hr u e => ?_) (h.tmps t)
       simp only [St.sig, hobj, Option.map_some, Option.some.injEq] at hsg
       subst hsg
       exact h2 hr u e
     · rw [k]; trivial
  objs := fun i o'' e => by
   rw [hob] at e
   split at e
   · rename_i hi; subst hi; injection e with e; subst e; exact ho
   · rename_i hi
     refine RootRep.same hle (hs i hi) (hh i hi) o'' (fun f ef j hj => ?_) (h.objs i o'' e)
     by_cases hj' : j = id
     · subst hj'; exact hbase
     · exact (hs j hj').base j rfl
  lives := hv
  defers := h.defers
  size := h.size
  small := h.small
  ext := fun i o'' e hi => by
   rw [hob] at e
   by_cases hii : i = id
   · subst hii
     rw [if_pos rfl] at e
     injection e with e
     subst e
     obtain ⟨e1, e2⟩ := h.ext i o hobj hi
     refine ⟨hbase.trans e1, fun ⟨u, hu⟩ => ?_⟩
     rw [hos] at hu
     rw [← e2 ⟨u, hu⟩]
     rcases hd with hd | ⟨root, h1, h2, h3⟩ | ⟨root, pl, h1, hP, h2, h3⟩
     case inr.inr =>
      cases root with
      | true => exact absurd hu (h2 rfl u)
      | false => exact h1 rfl
     · exact hd []
     · cases root with
       | true => exact absurd hu (h2 rfl u)
       | false => exact h1 rfl
   · rw [if_neg hii] at e
     rw [(hs i hii).base i rfl, (hs i hii).hdr]
     exact h.ext i o'' e hi }
theorem hush_spec {id : Id} {o : Ob} (ho : s.obj id = some o) : ∃ root, (root = true → ∀ u, o.sig ≠ .vec u) ∧ (root = false → ∃ u, o.sig = .vec u) ∧ (∀ t, ((s.hush id).tmp t).sees root id = false) ∧ (∀ t, (s.hush id).tmp t = s.tmp t ∨ (s.hush id).tmp t = .dead) ∧ (s.hush id).obj = s.obj ∧ (s.hush id).hole = s.hole := by
 unfold St.hush
 rw [ho]
 cases o with
 | vec m t xs =>
  refine ⟨false, by simp, fun _ => ⟨t, rfl⟩, fun u => ?_, fun u => ?_, rfl, rfl⟩
  · simp only; cases e : (s.tmp u).sees false id <;> simp [e, TV.sees]
  · simp only; cases (s.tmp u).sees false id <;> simp
 | box m v =>
  refine ⟨true, (fun _ u e => by cases e), by simp, fun u => ?_, fun u => ?_, rfl, rfl⟩
  · simp only; cases e : (s.tmp u).sees true id <;> simp [e, TV.sees]
  · simp only; cases (s.tmp u).sees true id <;> simp
 | fbox f =>
  refine ⟨true, (fun _ u e => by cases e), by simp, fun u => ?_, fun u => ?_, rfl, rfl⟩
  · simp only; cases e : (s.tmp u).sees true id <;> simp [e, TV.sees]
  · simp only; cases (s.tmp u).sees true id <;> simp
theorem hushP_spec {id : Id} {pl : List Step} {o : Ob} (ho : s.obj id = some o) : ∃ root, (root = true → ∀ u, o.sig ≠ .vec u) ∧ (root = false → ∃ u, o.sig = .vec u) ∧ (∀ t, ((s.hushP id pl).tmp t).seesP pl root id = false) ∧ (∀ t, (s.hushP id pl).tmp t = s.tmp t ∨ (s.hushP id pl).tmp t = .dead) ∧ (s.hushP id pl).obj = s.obj ∧ (s.hushP id pl).hole = s.hole := by
 unfold St.hushP
 rw [ho]
 cases o with
 | vec m t xs =>
  refine ⟨false, by simp, fun _ => ⟨t, rfl⟩, fun u => ?_, fun u => ?_, rfl, rfl⟩
  · simp only; cases e : (s.tmp u).seesP pl false id <;> simp [e, TV.seesP]
  · simp only; cases (s.tmp u).seesP pl false id <;> simp
 | box m v =>
  refine ⟨true, (fun _ u e => by cases e), by simp, fun u => ?_, fun u => ?_, rfl, rfl⟩
  · simp only; cases e : (s.tmp u).seesP pl true id <;> simp [e, TV.seesP]
  · simp only; cases (s.tmp u).seesP pl true id <;> simp
 | fbox f =>
  refine ⟨true, (fun _ u e => by cases e), by simp, fun u => ?_, fun u => ?_, rfl, rfl⟩
  · simp only; cases e : (s.tmp u).seesP pl true id <;> simp [e, TV.seesP]
  · simp only; cases (s.tmp u).seesP pl true id <;> simp
theorem fillHole_some {id : Id} {p : List Step} {K : St → Option α} (h : fillHole s id p K = some r) : (s.hole = none ∨ s.hole = some (id, p)) ∧ K { s with hole := none } = some r := by
 unfold fillHole at h
 split at h
 · rename_i hn
   refine ⟨.inl hn, ?_⟩
   have : ({ s with hole := none } : St) = s := by cases s; simp only at hn; subst hn; rfl
   rw [this]; exact h
 · rename_i i q hq
   cases e : sameId i id
   · simp [e] at h
   · simp only [e, cond_true] at h
     obtain ⟨h1, h2⟩ := guardB_some h
     have e1 := sameId_eq.1 e
     have e2 := sameSteps_eq h1
     subst e1 e2
     exact ⟨.inr hq, h2⟩
theorem put_obj {id j : Id} {o : Ob} : (s.put id o).obj j = if j = id then some o else s.obj j := by
 simp only [St.put]
 by_cases hj : j = id
 · subst hj; simp [updI_same]
 · simp [updI_ne _ _ hj, hj]
theorem run_storeFn {T : TypeId} (hT : FnOk P T) {b : Addr} (hb : b.spot = none) {c : Array Value} {e : TypeId} (hc : w.heap[b.block]? = some (.cells c e (0, 0))) (hfit : b.off + 1 ≤ c.size) {v : Value} (hv : v.cells = #[v]) (h1 : v.oneCell' = true) :
  (Instr.storeAt T (.pointer (some b)) v).run P w = .ok () (w.setRow b.block (c.toList.take b.off ++ [v] ++ c.toList.drop (b.off + 1)).toArray) := by
 obtain ⟨ti, i1, i2, i3⟩ := hT.info
 have hst := run_storeCells_at P b.block b.off e [v] 0 c w hc (by simpa using hfit) (by simpa using h1)
 have hb' : (⟨b.block, b.off, none⟩ : Addr) = b := by cases b; simp at hb; subst hb; rfl
 rw [hb'] at hst
 simp only [Nat.add_zero, List.length_singleton] at hst
 simp [Instr.storeAt, Instr.sureAddr, storeVar, Go.sizeOf, typeInfo, i1, i2, hv, hst]
theorem store_fn (h : R g0 w0 N s g a w) {T : TypeId} (hT : FnOk P T) {id : Id} {f0 f : Option FnV} (ho : s.obj id = some (.fbox f0)) {ad : Addr} (had : ad = g.base id) {v : Value} (hv : v = match f with
   | some f => FnVal g f
   | none => .nilFunc) :
  ∃ w', (Instr.storeAt T (.pointer (some ad)) v).run P w = .ok () w' ∧ R g0 w0 N (s.put id (.fbox f)) g a w' := by
 subst had
 obtain ⟨h1, h2, ⟨c, e, h3⟩, h4⟩ := h.objs id _ ho
 have hfit : (g.base id).off + 1 ≤ c.size := by
  have h4' := h4
  unfold World.cell? at h4'
  rw [h3] at h4'
  simp only [h1, Option.isSome_none, Bool.false_eq_true, if_false] at h4'
  obtain ⟨k, _⟩ := Array.getElem?_eq_some_iff.1 h4'
  omega
 have hvc : v.cells = #[v] ∧ v.oneCell' = true := by
  subst hv
  cases f <;> exact ⟨rfl, rfl⟩
 refine ⟨_, run_storeFn hT h1 h3 hfit hvc.1 hvc.2, ?_⟩
 have hbn : g.own (g.base id).block ≠ none ∧ g.own (g.base id).block ≠ some (none, none) := by rw [h2]; simp
 obtain ⟨k1, k2⟩ := setRow_cells (cs := [v]) h3 hfit
 have hab : (⟨(g.base id).block, (g.base id).off, none⟩ : Addr) = g.base id := by
  cases hb : g.base id; rw [hb] at h1; simp at h1; subst h1; rfl
 rw [hab] at k1
 refine h.write (id := id) (o' := .fbox f) ho rfl (setRow_le hbn) (fun j hj => ⟨fun _ => rfl, fun _ _ => rfl, fun b q hb => ⟨setRow_other w _ _ _ (fun e => by rw [e, h2] at hb; injection hb with hb; injection hb with hb; exact hj (by injection hb with hb; exact hb.symm)), hb⟩⟩) rfl
  (fun b o hb => by simpa [World.setRow] using h.lives b o hb) (fun _ => .inl rfl) (.inl fun _ => rfl) (fun j => put_obj) (fun _ _ _ => Iff.rfl) ⟨h1, h2, ⟨_, e, setRow_heap w _ c _ e _ h3⟩, ?_⟩
 have := k1 0 (by simp)
 rw [add_zero] at this
 simp only [List.length_singleton] at this
 rw [this, hv]
 cases f <;> rfl
theorem store_sound {tab : Tab} (ht : TabOk' P tab) (h : R g0 w0 N s g a w) {T : TypeId} {k : TK} (hk : tab.find T = some k) {x y : Operand} {K : St → Option α} (hs : storeV k s (s.ev x) (s.ev y) K = some r) :
  ∃ w' s' g', (Instr.storeAt T (a.eval x) (a.eval y)).run P w = .ok () w' ∧ R g0 w0 N s' g' a w' ∧ K s' = some r := by
 have hx := h.ev x
 have hy := h.ev y
 unfold storeV at hs
 cases k with
 | data i =>
  have hi : tab.ti T = some i := by simp [Tab.ti, hk]
  simp only at hs
  split at hs
  · rename_i id p hv
    rw [hv] at hx
    obtain ⟨ad, e1, e2⟩ := hx
    split at hs
    · rename_i m v s1 htk
      obtain ⟨g1, cs, f1, f2, f3, f4, f5, f6⟩ := take_rep h hy htk []
      split at hs
      · rename_i y' hc
        have := castTo_some hc
        subst this
        split at hs
        · rename_i o ho
          split at hs
          · rename_i om ov hroot
            split at hs
            · rename_i m0 old hget
              split at hs
              · rename_i y0 hc0
                have := castTo_some hc0
                subst this
                split at hs
                · rename_i M hM
                  split at hs
                  · rename_i o' hput
                    -- where it lies
                    have hsig0 : s.sig id = some o.sig := by simp [St.sig, f6 _ _ ho]
                    have hroot1 : AddrRoot g1 id o.sig p ad := (e2 _ hsig0).congr (f5.all id) (f5.base id)
                    have hos := put_sig ho hput
                    have hlen := f3.len
                    have hone := ORep.one (by simp) f3
                    have hpos := (ht.data T i hi).pos
                    have main : Clear s1.hl (some id) [] p → ∃ q0, g1.own ad.block = some (some id, q0) ∧ (∀ q, q0 = some q → ∃ r, p = q ++ r ∧ r ≠ []) ∧ ∃ c e, w.heap[ad.block]? = some (.cells c e (0, 0)) ∧ ad.off + cs.length ≤ c.size ∧ ad.spot = none ∧
                     (Instr.storeAt T (a.eval x) (a.eval y)).run P w = .ok () (w.setRow ad.block (c.toList.take ad.off ++ cs ++ c.toList.drop (ad.off + cs.length)).toArray) := by
                     intro hcl
                     obtain ⟨r1, ⟨c, e, r2⟩, ⟨q0, r3, r4⟩, ds, r5, r6⟩ := f2.spot ho hroot hget hcl hroot1
                     have hfit := fit_of_cells r1 r2 r5 (by rw [r6]; exact hpos)
                     rw [r6] at hfit
                     have hfit' : ad.off + cs.length ≤ c.size := by rw [hlen]; exact hfit
                     exact ⟨q0, r3, r4, c, e, r2, hfit', r1, by rw [e1, f1]; exact run_storeVar ht.data hi r1 r2 hlen hfit' hone⟩
                    cases hls : i.ty.lists
                    · simp only [hls, cond_false] at hs
                      split at hs
                      · rename_i hn
                        have hhl : s1.hl = none := by simp [St.hl, hn]
                        obtain ⟨q0, r3, r4, c, e, r2, hfit, r1, hrun⟩ := main (by rw [hhl]; exact Clear.none)
                        refine ⟨_, s1.put id o', g1, hrun, ?_, hs⟩
                        have hbn : g1.own ad.block ≠ none ∧ g1.own ad.block ≠ some (none, none) := by rw [r3]; simp
                        obtain ⟨k1, k2⟩ := setRow_cells r2 hfit
                        have hab : (⟨ad.block, ad.off, none⟩ : Addr) = ad := by cases ad; simp at r1; subst r1; rfl
                        rw [hab] at k1
                        have W : Wr g1 w none g1 (w.setRow ad.block (c.toList.take ad.off ++ cs ++ c.toList.drop (ad.off + cs.length)).toArray) none (some id) p ad.block ad.off cs.length :=
                         ⟨setRow_le hbn, ⟨q0, r3, r3, r4⟩, fun b q hb hne _ => ⟨setRow_other w _ _ _ hne, hb⟩, fun _ _ => rfl, fun _ _ => Iff.rfl, ⟨c, _, e, r2, setRow_heap w _ c _ e _ r2, by simp; omega⟩, k2⟩
                        have hob := f2.objs id o ho
                        rw [hhl] at hob
                        have hyy : ORep g1 (w.setRow ad.block (c.toList.take ad.off ++ cs ++ c.toList.drop (ad.off + cs.length)).toArray) none (some id) i.ty m p y' cs :=
                         ORep.of_plain _ _ _ _ _ hls ((ORep.plain _ _ _ _ _ hls f3).le (setRow_le hbn))
                        refine f2.write (id := id) ho hos (setRow_le hbn) (fun j hj => ⟨fun _ => rfl, fun _ _ => rfl, fun b q hb => ⟨setRow_other w _ _ _ (fun e => by rw [e, r3] at hb; injection hb with hb; injection hb with hb; exact hj (by injection hb with hb; exact hb.symm)), hb⟩⟩) rfl
                         (fun b o hb => by simpa [World.setRow] using f2.lives b o hb) (fun _ => .inl rfl) (.inl fun _ => rfl) (fun j => put_obj) (fun _ _ _ => Iff.rfl) ?_
                        show RootRep _ _ s1.hl id o'
                        rw [hhl]
                        exact RootRep.set hroot W hob rfl Clear.none hget hroot1 rfl rfl (by simpa using hlen.symm) hyy k1 hM hput
                      · cases hs
                    · simp only [hls, cond_true] at hs
                      obtain ⟨hh, hs⟩ := fillHole_some hs
                      have hcl : Clear s1.hl (some id) [] p := by
                       intro q st r e
                       rcases hh with hh | hh
                       · simp [St.hl, hh]
                       · simp only [St.hl, hh, Option.map_some, ne_eq, Option.some.injEq, Prod.mk.injEq, true_and, List.nil_append]
                         intro e'
                         rw [e'] at e
                         have := congrArg List.length e
                         simp at this
                      obtain ⟨q0, r3, r4, c, e, r2, hfit, r1, hrun⟩ := main hcl
                      let w2 := w.setRow ad.block (c.toList.take ad.off ++ cs ++ c.toList.drop (ad.off + cs.length)).toArray
                      let g2 := g1.mv none [] (some id) p
                      have hlab2 : g2.own ad.block = some (some id, q0) := mv_own_ne (by simp) r3
                      have hle : Le g1 w g2 w2 := mv_le.trans (setRow_le (by rw [hlab2]; simp))
                      obtain ⟨k1, k2⟩ := setRow_cells r2 hfit
                      have hab : (⟨ad.block, ad.off, none⟩ : Addr) = ad := by cases ad; simp at r1; subst r1; rfl
                      rw [hab] at k1
                      have hhl : ∀ q, s1.hl = some (some id, q) → q = p := fun q e => by
                       rcases hh with hh | hh
                       · simp [St.hl, hh] at e
                       · simp only [St.hl, hh, Option.map_some, Option.some.injEq, Prod.mk.injEq, true_and] at e; exact e.symm
                      have hhl' : ∀ j, j ≠ id → ∀ q, s1.hl ≠ some (some j, q) := fun j hj q e => by
                       rcases hh with hh | hh
                       · simp [St.hl, hh] at e
                       · simp only [St.hl, hh, Option.map_some, Option.some.injEq, Prod.mk.injEq] at e; exact hj e.1.symm
                      have W : Wr g1 w s1.hl g2 w2 none (some id) p ad.block ad.off cs.length :=
                       ⟨hle, ⟨q0, r3, hlab2, r4⟩, fun b q hb hne _ => ⟨setRow_other w _ _ _ hne, mv_own_ne (by simp) hb⟩, fun q hq => mv_hdr_off hq, fun q hq => ⟨(fun e => by cases e), fun e => absurd (hhl q e) (fun e => hq [] (by simpa using e))⟩, ⟨c, _, e, r2, setRow_heap w _ c _ e _ r2, by simp; omega⟩, k2⟩
                      have hyy : ORep g2 w2 none (some id) i.ty m p y' cs :=
                       ORep.move hle _ _ [] _ _ _ ⟨mv_hdr, fun b q hb => ⟨setRow_other w _ _ _ (fun e => by rw [e, r3] at hb; injection hb with hb; injection hb with hb; cases hb), mv_own hb⟩, fun _ => ⟨(fun e => by cases e), (fun e => by cases e)⟩⟩ f3
                      obtain ⟨root, z1, z2, z3, z4, z5, z6⟩ := hushP_spec (s := { s1 with hole := none }) (id := id) (pl := p) (o := o) ho
                      refine ⟨w2, _, g2, hrun, ?_, hs⟩
                      refine f2.write (id := id) ho hos hle (fun j hj => ⟨fun r => mv_hdr_ne (by simpa using hj) r, fun _ _ => rfl, fun b q hb => ⟨setRow_other w _ _ _ (fun e => by rw [e, r3] at hb; injection hb with hb; injection hb with hb; exact hj (by injection hb with hb; exact hb.symm)), mv_own_ne (by simp) hb⟩⟩) rfl
                       (fun b o hb => by
                        simp only [w2, World.setRow, Array.size_modify]
                        cases k' : g1.own b with
                        | none => rw [mv_none k'] at hb; cases hb
                        | some o' => exact f2.lives b o' k') (fun t => z4 t) (.inr (.inr ⟨root, p, fun hr => mv_hdr_off (fun z e => ?_), fun z hz => mv_hdr_off hz, z1, z3⟩)) (fun j => by rw [put_obj, z5]) (fun j hj r => ?_) ?_
                      · obtain ⟨u, hu⟩ := z2 hr
                        rw [hu] at hroot1
                        simp only [List.nil_eq, List.append_eq_nil_iff] at e
                        exact hroot1.1 e.1
                      · have : (({ s1 with hole := none } : St).hushP id p |>.put id o').hl = none := by simp [St.hl, St.put, z6]
                        rw [this]
                        exact ⟨(fun e => by cases e), fun e => absurd e (hhl' j hj r)⟩
                      · have : (({ s1 with hole := none } : St).hushP id p |>.put id o').hl = none := by simp [St.hl, St.put, z6]
                        rw [this]
                        exact RootRep.set hroot W (f2.objs id o ho) rfl hcl hget hroot1 rfl rfl (by simpa using hlen.symm) hyy k1 hM hput
                  · cases hs
                · cases hs
              · cases hs
            · cases hs
          · cases hs
        · cases hs
      · cases hs
    · cases hs
  · cases hs
 | fn =>
  have hT := ht.fn T hk
  simp only at hs
  split at hs
  · rename_i id f hv hvy
    rw [hv] at hx
    rw [hvy] at hy
    obtain ⟨ad, e1, e2⟩ := hx
    split at hs
    · rename_i f0 ho
      have e3 := e2 _ (by simp [St.sig, ho]; rfl)
      simp only [Ob.sig, AddrRoot] at e3
      obtain ⟨w', k1, k2⟩ := store_fn h hT (f := some f) ho e3.2 (v := a.eval y) hy
      rw [e1]
      exact ⟨w', _, g, k1, k2, hs⟩
    · cases hs
  · rename_i id hv hvy
    rw [hv] at hx
    rw [hvy] at hy
    obtain ⟨ad, e1, e2⟩ := hx
    split at hs
    · rename_i f0 ho
      have e3 := e2 _ (by simp [St.sig, ho]; rfl)
      simp only [Ob.sig, AddrRoot] at e3
      obtain ⟨w', k1, k2⟩ := store_fn h hT (f := none) ho e3.2 (v := a.eval y) hy
      rw [e1]
      exact ⟨w', _, g, k1, k2, hs⟩
    · cases hs
  · cases hs
end
end Go.Ve
namespace Go.Ve
open Go Go.RowKit
section
variable {P : Program} {g0 : Gh} {w0 : Fra} {N : Nat} {s : St} {g : Gh} {a : Act} {w : World} {α : Type} {r : α} {Q : Exit → Act → World → Prop}
def _root_.Go.Ve.Gh.nils (g : Gh) : Gh := { g with hdr := fun i r => if i = none then .slice none 0 0 else g.hdr i r }
theorem nils_le : Le g w g.nils w := ⟨rfl, rfl, rfl, Nat.le_refl _, fun b _ h => ⟨rfl, h⟩, fun b _ h => ⟨rfl, h⟩⟩
theorem R.nils (h : R g0 w0 N s g a w) : R g0 w0 N s g.nils a w :=
 h.ghost nils_le (fun _ h => h) (fun i r => by simp [Gh.nils]) (fun _ => rfl) (fun _ => .inl rfl) (fun i o e => ⟨e, RootRep.same nils_le ⟨fun r => by simp [Gh.nils], fun _ _ => rfl, fun _ _ h => ⟨rfl, h⟩⟩ (fun _ => Iff.rfl) o (fun _ _ _ _ => rfl) (h.objs i o e)⟩)
theorem ORep.zero : ∀ (t : Ty) (p : List Step), ORep g.nils w none none t t.full p t.zero (zeroCells t)
 | .int k, p => rfl
 | .bool, p => rfl
 | .str, p => rfl
 | .unit, p => rfl
 | .list t, p => .inr ⟨by simp, by simp [zeroCells, Gh.nils], .inl ⟨by simp [Gh.nils], rfl⟩⟩
 | .prod a b, p => ORep.mk (x := (a.zero, b.zero)) (ORep.zero a _) (ORep.zero b _)
theorem alloc_sound {tab : Tab} (ht : TabOk P tab) (h : R g0 w0 N s g a w) {d : Nat} (hd : d < N) (hf : s.free (d, 0) = true) {T : TypeId} {i : TI} (hi : tab.ti T = some i) :
  ∃ w' g' mv, (Instr.alloc T true (.tuple #[])).run P w = .ok mv w' ∧ R g0 w0 N ((s.new (d, 0) (.box i.ty.full ⟨i.ty, i.ty.zero⟩)).set d (.addr (d, 0) [])) g' (a.put (some d) mv) w' ∧ ∀ b, b < w.heap.size → w'.heap[b]? = w.heap[b]? := by
 obtain ⟨ti, h1, h2, h3⟩ := (ht T i hi).info
 obtain ⟨g', k1, k2⟩ := place_box (id := (d, 0)) h.nils hd hf (ORep.zero i.ty []) T
 have hz : (zeroCells i.ty).length = i.ty.size := (ORep.zero (g := g) (w := w) i.ty []).len
 have ho := ORep.one (by simp) (ORep.zero (g := g) (w := w) i.ty [])
 have hc := wrap_cells hz (ht T i hi).pos ho
 refine ⟨_, g', .pointer (some ⟨w.heap.size, 0, none⟩), ?_, k1.set hd ⟨_, rfl, fun sg hs => ?_⟩, fun b hb => Below.heap_alloc w _ b hb⟩
 · simp [Instr.alloc, zeroValue, typeInfo, h1, h3, newVar, newRow, hc]
 · simp only [St.sig, St.new, St.put, updI_same, Option.map_some, Option.some.injEq] at hs
   subst hs
   simp only [Ob.sig, AddrRoot, AddrOf]
   exact k2.symm
theorem allocFn_sound (h : R g0 w0 N s g a w) {d : Nat} (hd : d < N) (hf : s.free (d, 0) = true) {T : TypeId} (hT : FnOk P T) :
  ∃ w' g' mv, (Instr.alloc T true (.tuple #[])).run P w = .ok mv w' ∧ R g0 w0 N ((s.new (d, 0) (.fbox none)).set d (.addr (d, 0) [])) g' (a.put (some d) mv) w' ∧ ∀ b, b < w.heap.size → w'.heap[b]? = w.heap[b]? := by
 obtain ⟨ti, h1, h2, h3⟩ := hT.info
 obtain ⟨g', k1, k2⟩ := place_fbox (id := (d, 0)) h hd hf (f := none) rfl (by simp) T
 refine ⟨_, g', .pointer (some ⟨w.heap.size, 0, none⟩), ?_, k1.set hd ⟨_, rfl, fun sg hs => ?_⟩, fun b hb => Below.heap_alloc w _ b hb⟩
 · simp [Instr.alloc, zeroValue, typeInfo, h1, h3, newVar, newRow, Value.cells]
 · simp only [St.sig, St.new, St.put, updI_same, Option.map_some, Option.some.injEq] at hs
   subst hs
   exact ⟨rfl, k2.symm⟩
theorem box_sound {tab : Tab} (ht : TabOk P tab) (h : R g0 w0 N s g a w) {d : Nat} (hd : d < N) {T : TypeId} {i : TI} (hi : tab.ti T = some i) {x : Operand} {m : Mask} {s1 : St} {y : i.ty.den} (htk : s.take i.ty (s.ev x) = some (m, ⟨i.ty, y⟩, s1)) (hf : s1.free (d, 0) = true) :
  ∃ w' g' mv, (Instr.box T (a.eval x)).run P w = .ok mv w' ∧ R g0 w0 N ((s1.new (d, 0) (.box m ⟨i.ty, y⟩)).set d (.addr (d, 0) [])) g' (a.put (some d) mv) w' ∧ ∀ b, b < w.heap.size → w'.heap[b]? = w.heap[b]? := by
 obtain ⟨g1, cs, f1, f2, f3, f4, f5, f6⟩ := take_rep h (h.ev x) htk []
 obtain ⟨g', k1, k2⟩ := place_box (id := (d, 0)) f2 hd hf f3 T
 have hc := wrap_cells f3.len (ht T i hi).pos (ORep.one (by simp) f3)
 refine ⟨_, g', .pointer (some ⟨w.heap.size, 0, none⟩), ?_, k1.set hd ⟨_, rfl, fun sg hs => ?_⟩, fun b hb => Below.heap_alloc w _ b hb⟩
 · rw [f1]; simp [Instr.box, newVar, newRow, hc]
 · simp only [St.sig, St.new, St.put, updI_same, Option.map_some, Option.some.injEq] at hs
   subst hs
   simp only [Ob.sig, AddrRoot, AddrOf]
   exact k2.symm
theorem boxFn_sound (h : R g0 w0 N s g a w) {d : Nat} (hd : d < N) (hf : s.free (d, 0) = true) {T : TypeId} {x : Operand} {f : FnV} (hx : s.ev x = .fn f) (hc : (d, 0) ∉ f.caps) :
  ∃ w' g' mv, (Instr.box T (a.eval x)).run P w = .ok mv w' ∧ R g0 w0 N ((s.new (d, 0) (.fbox (some f))).set d (.addr (d, 0) [])) g' (a.put (some d) mv) w' ∧ ∀ b, b < w.heap.size → w'.heap[b]? = w.heap[b]? := by
 have hv := h.ev x
 rw [hx] at hv
 have hv : a.eval x = FnVal g f := hv
 obtain ⟨g', k1, k2⟩ := place_fbox (id := (d, 0)) h hd hf (f := some f) rfl (fun f' e => by injection e with e; subst e; exact hc) T
 refine ⟨_, g', .pointer (some ⟨w.heap.size, 0, none⟩), ?_, k1.set hd ⟨_, rfl, fun sg hs => ?_⟩, fun b hb => Below.heap_alloc w _ b hb⟩
 · rw [hv]; simp [Instr.box, newVar, newRow, Value.cells, FnVal]
 · simp only [St.sig, St.new, St.put, updI_same, Option.map_some, Option.some.injEq] at hs
   subst hs
   exact ⟨rfl, k2.symm⟩
theorem ORep.zeroAt {id : RId} : ∀ (t : Ty) (p : List Step), (∀ z, g.hdr id (p ++ z) = .slice none 0 0) → ORep g w none id t t.full p t.zero (zeroCells t)
 | .int k, p, _ => rfl
 | .bool, p, _ => rfl
 | .str, p, _ => rfl
 | .unit, p, _ => rfl
 | .list t, p, h => .inr ⟨by simp, by have := h []; simp only [List.append_nil] at this; simp [zeroCells, this], .inl ⟨by have := h []; simpa using this, rfl⟩⟩
 | .prod a b, p, h => ORep.mk (x := (a.zero, b.zero)) (ORep.zeroAt a _ fun z => by rw [List.append_assoc]; exact h _) (ORep.zeroAt b _ fun z => by rw [List.append_assoc]; exact h _)
theorem R.newVec (h : R g0 w0 N s g a w) {g1 : Gh} (h1 : Le g w g1 w) {id : Id} (hid : id.1 < N) (hsm : ∀ j, j ≠ id → Same g w g1 w (some j)) (hno : ∀ b, g.own b = none → g1.own b = none) (hf : s.free id = true) {t : Ty} {m : Mask} {xs : List t.den} {c : Array Value} {e : TypeId} {cap : Nat}
  (hl : xs.length ≤ cap) (hm : cap ≤ maxLen) (hc : cap * t.size ≤ c.size) (hE : ∀ i (hi : i < xs.length), ∃ ds, ORep g1 w none (some id) t m [.idx i] xs[i] ds ∧ ∀ j (hj : j < ds.length), c[i * t.size + j]? = some ds[j]) :
  ∃ g2, R g0 w0 N (s.new id (.vec m t xs)) g2 a (w.alloc (.cells c e)) ∧ g2.hdr (some id) [] = .slice (some ⟨w.heap.size, 0, none⟩) xs.length cap := by
 let w2 := w.alloc (.cells c e)
 let ga := g1.at w.heap.size (some id, some [])
 let g2 : Gh := { ga with hdr := fun i r => if i = some id ∧ r = [] then .slice (some ⟨w.heap.size, 0, none⟩) xs.length cap else g1.hdr i r }
 have hk : ∀ b, b < w.heap.size → w2.heap[b]? = w.heap[b]? := fun b hb => Below.heap_alloc w _ b hb
 have hl1 : ∀ b o, g1.own b = some o → b < w.heap.size := fun b o k => by
  cases k' : g.own b with
  | none => rw [hno b k'] at k; cases k
  | some o' => exact h.lives b o' k'
 have hle2 : Le g1 w ga w2 := at_le (Nat.le_refl _) (alloc_le _ _ _)
 have hle3 : Le ga w2 g2 w2 := ⟨rfl, rfl, rfl, Nat.le_refl _, fun b _ k => ⟨rfl, k⟩, fun b _ k => ⟨rfl, k⟩⟩
 have hle : Le g w g2 w2 := (h1.trans hle2).trans hle3
 have h0 : g2.hdr (some id) [] = .slice (some ⟨w.heap.size, 0, none⟩) xs.length cap := by simp [g2]
 refine ⟨g2, h.new hid hle (fun j hj => ?_) hf ?_ (fun b o k => ?_), h0⟩
 · have s2 : Same g1 w ga w2 (some j) := Same.at hl1 (fun b o k => hk b (hl1 b o k))
   have s3 : Same ga w2 g2 w2 (some j) := ⟨fun r => by simp [g2, ga, Gh.at, hj], fun _ _ => rfl, fun _ _ k => ⟨rfl, k⟩⟩
   exact ((hsm j hj).trans s2).trans s3
 · refine .inr ⟨⟨w.heap.size, 0, none⟩, cap, c, e, h0, rfl, by simp [g2, ga, Gh.at], heap_new w _, hl, hm, by simpa using hc, fun i hi => ?_⟩
   obtain ⟨ds, d1, d2⟩ := hE i hi
   refine ⟨ds, fun j hj => ?_, hi, ?_⟩
   · rw [add_add rfl, add_eq rfl]
     unfold World.cell?
     rw [heap_new]
     simpa using d2 j hj
   · have := ORep.at (n := w.heap.size) (ow := (some id, some [])) hl1 hle2 (fun b o k => hk b (hl1 b o k)) d1
     exact ORep.move hle3 _ _ _ _ _ _ ⟨fun z => by simp [g2, ga, Gh.at], fun _ _ k => ⟨rfl, k⟩, fun _ => Iff.rfl⟩ this
 · have hsz : w2.heap.size = w.heap.size + 1 := by show (w.heap.push _).size = _; simp
   rw [hsz]
   simp only [g2, ga, Gh.at] at k
   split at k
   · omega
   · have := hl1 b o k; omega
theorem ref_rep {sg : Id → Option Sig} {id : Id} {t : Ty} (hs : sg id = some (.vec t)) : TRep g w sg (.ref id []) (g.hdr (some id) []) :=
 ⟨.list t, [g.hdr (some id) []], ⟨rfl, fun s e => by rw [hs] at e; injection e with e; subst e; exact ⟨rfl, .inl ⟨rfl, t, rfl⟩⟩⟩, rfl⟩
theorem new_sig {id : Id} {o : Ob} : (s.new id o).sig id = some o.sig := by simp [St.sig, St.new, St.put, updI_same]
theorem zeros_get {z : List Value} {n i j : Nat} (hz : 0 < z.length) (hj : j < z.length) (hi : i < n) : ((Array.range (n * z.length)).map (fun k => z.toArray[k % z.toArray.size]!))[i * z.length + j]? = some z[j] := by
 have h1 : i * z.length + j < n * z.length := by
  have := Nat.mul_le_mul_right z.length (show i + 1 ≤ n from hi)
  rw [Nat.add_mul] at this
  omega
 have h2 : (i * z.length + j) % z.length = j := by rw [Nat.mul_comm, Nat.mul_add_mod, Nat.mod_eq_of_lt hj]
 rw [Array.getElem?_map, Array.getElem?_range, if_pos h1]
 simp only [Option.map_some, List.size_toArray, h2]
 simp [hj]
theorem wrap64_id {n : Int} (h0 : 0 ≤ n) (h1 : n ≤ 9223372036854775807) : IntKind.i64.wrap n = n := IntWalk.i64_in n ⟨by omega, h1⟩
theorem makeSlice_sound {tab : Tab} (ht : TabOk P tab) (h : R g0 w0 N s g a w) {d : Nat} (hd : d < N) (hf : s.free (d, 0) = true) {T : TypeId} {i : TI} (hi : tab.ti T = some i) {e : Ty} (he : i.ty = .list e) {k k' : IntKind} {n m : Int} (h0 : 0 ≤ n) (h1 : n ≤ m) (h2 : m * i.bytes ≤ 140737488355328) :
  ∃ w' g' mv, (Instr.makeSlice T (.int k n) (.int k' m)).run P w = .ok mv w' ∧ R g0 w0 N ((s.new (d, 0) (.vec e.full e (List.replicate n.toNat e.zero))).set d (.ref (d, 0) [])) g' (a.put (some d) mv) w' ∧ ∀ b, b < w.heap.size → w'.heap[b]? = w.heap[b]? := by
 have hok := (ht T i hi).kind
 simp only [he] at hok
 obtain ⟨E, ie, ti, hu, hE, rfl, i1, i2, i3⟩ := hok
 obtain ⟨tE, j1, j2, j3⟩ := (ht E ie hE).info
 have hpos := (ht E ie hE).pos
 rw [i1] at j1
 injection j1 with j1
 subst j1
 have hm0 : m ≤ 140737488355328 := by
  have : m * 1 ≤ m * i.bytes := Int.mul_le_mul_of_nonneg_left (by omega) (by omega)
  omega
 let g1 : Gh := { g with hdr := fun i r => if i = some (d, 0) then .slice none 0 0 else g.hdr i r }
 have hz : (zeroCells ie.ty).length = ie.ty.size := (ORep.zero (g := g) (w := w) ie.ty []).len
 have hone := ORep.one (by simp) (ORep.zero (g := g) (w := w) ie.ty [])
 have hzc := wrap_cells hz hpos hone
 have hlen : (List.replicate n.toNat ie.ty.zero).length = n.toNat := by simp
 obtain ⟨g2, k1, k2⟩ := h.newVec (g1 := g1) ⟨rfl, rfl, rfl, Nat.le_refl _, fun _ _ h => ⟨rfl, h⟩, fun _ _ h => ⟨rfl, h⟩⟩ (id := (d, 0)) hd (fun j hj => ⟨fun r => by simp [g1, hj], fun _ _ => rfl, fun _ _ h => ⟨rfl, h⟩⟩) (fun _ h => h) hf (m := ie.ty.full) (xs := List.replicate n.toNat ie.ty.zero)
  (c := (Array.range (m.toNat * (zeroCells ie.ty).length)).map (fun k => (zeroCells ie.ty).toArray[k % (zeroCells ie.ty).toArray.size]!)) (e := E) (cap := m.toNat) (by rw [hlen]; omega) (by simp only [maxLen]; omega) (by simp [hz])
  (fun i hi => ⟨zeroCells ie.ty, by rw [List.getElem_replicate]; exact ORep.zeroAt _ _ (fun z => by simp [g1]), fun j hj => by rw [← hz]; exact zeros_get (by omega) hj (by rw [hlen] at hi; omega)⟩)
 refine ⟨_, g2, g2.hdr (some (d, 0)) [], ?_, k1.set hd (ref_rep new_sig), fun b hb => Below.heap_alloc w _ b hb⟩
 rw [k2, hlen]
 have w1 : IntKind.i64.wrap n = n := wrap64_id h0 (by omega)
 have w2 : IntKind.i64.wrap m = m := wrap64_id (by omega) (by omega)
 have t1 : ¬ m < 0 := by omega
 have t2 : ¬ 281474976710656 < (ti.bytes : Int) * m := by rw [i2, Int.mul_comm]; omega
 have t3 : ¬ n < 0 := by omega
 have t4 : ¬ n > m := by omega
 have hr0 : Array.range 0 = #[] := by apply Array.ext' ; simp
 by_cases hzero : m.toNat * ie.ty.size = 0
 · simp [hr0, Instr.makeSlice, run_underlying hu, asInt, asIntOf, typeInfo, i1, w1, w2, t1, t2, t3, t4, Go.sizeOf, j2, hzero, newRow, hz]
 · simp [Instr.makeSlice, run_underlying hu, asInt, asIntOf, typeInfo, i1, w1, w2, t1, t2, t3, t4, Go.sizeOf, j2, hzero, newRow, hz, zeroValue, j3, hzc]
theorem fold_list (off : Nat) : ∀ (vs : List Value) (k : Nat) (cells : Array Value), off + k + vs.length ≤ cells.size →
  ((vs.zipIdx k).foldl (fun cs (c, j) => cs.setIfInBounds (off + j) c) cells).size = cells.size ∧
  ∀ q, ((vs.zipIdx k).foldl (fun cs (c, j) => cs.setIfInBounds (off + j) c) cells)[q]? = if off + k ≤ q ∧ q < off + k + vs.length then vs[q - (off + k)]? else cells[q]?
 | [], k, cells, _ => by simp; intro q h1 h2; omega
 | v :: vs, k, cells, h => by
  simp only [List.length_cons] at h
  obtain ⟨h1, h2⟩ := fold_list off vs (k + 1) (cells.setIfInBounds (off + k) v) (by simp; omega)
  simp only [List.zipIdx_cons, List.foldl_cons]
  refine ⟨by rw [h1]; simp, fun q => ?_⟩
  rw [h2]
  by_cases hq : q = off + k
  · subst hq
    rw [if_neg (by omega), if_pos ⟨Nat.le_refl _, by simp⟩]
    have : off + k < cells.size := by omega
    simp [this]
  · rw [Array.getElem?_setIfInBounds_ne (Ne.symm hq)]
    by_cases h3 : off + (k + 1) ≤ q ∧ q < off + (k + 1) + vs.length
    · rw [if_pos h3, if_pos ⟨by omega, by simp only [List.length_cons]; omega⟩]
      have : q - (off + k) = (q - (off + (k + 1))) + 1 := by omega
      rw [this, List.getElem?_cons_succ]
    · rw [if_neg h3, if_neg (by simp only [List.length_cons]; omega)]
theorem fill_spec {size : Nat} : ∀ (vs : List Value) (k : Nat) (cells : Array Value), (∀ v ∈ vs, v.cells.size = size) → (k + vs.length) * size ≤ cells.size → (hi : inOrder k (vs.zipIdx k |>.map fun x => (x.2, Operand.global 0)) = true) →
  ∃ c, Instr.fill (fun i => some (i * size, size)) cells ((vs.zipIdx k).map fun x => (x.2, x.1)) = some c ∧ c.size = cells.size ∧
   (∀ q, q < k * size ∨ (k + vs.length) * size ≤ q → c[q]? = cells[q]?) ∧ ∀ i (hi : i < vs.length), ∀ j, j < size → c[(k + i) * size + j]? = vs[i].cells[j]?
 | [], k, cells, _, _, _ => ⟨cells, rfl, rfl, fun _ _ => rfl, fun i hi => by simp at hi⟩
 | v :: vs, k, cells, hv, hs, hi => by
  have e0 : v.cells.size = size := hv v (by simp)
  have hfit : k * size + 0 + v.cells.toList.length ≤ cells.size := by
   simp only [Array.length_toList, e0]
   have := Nat.mul_le_mul_right size (show k + 1 ≤ k + (v :: vs).length by simp)
   rw [Nat.add_mul] at this
   omega
  obtain ⟨f1, f2⟩ := fold_list (k * size) v.cells.toList 0 cells hfit
  have hfold : v.cells.zipIdx.foldl (fun cs (c, j) => cs.setIfInBounds (k * size + j) c) cells = (v.cells.toList.zipIdx 0).foldl (fun cs (c, j) => cs.setIfInBounds (k * size + j) c) cells := by
   rw [← Array.foldl_toList, Array.toList_zipIdx]
  obtain ⟨c, g1, g2, g3, g4⟩ := fill_spec vs (k + 1) ((v.cells.toList.zipIdx 0).foldl (fun cs (c, j) => cs.setIfInBounds (k * size + j) c) cells) (fun u hu => hv u (by simp [hu])) (by rw [f1]; simpa [Nat.add_assoc, Nat.add_comm 1] using hs) (by simpa [inOrder] using hi)
  refine ⟨c, ?_, by rw [g2, f1], fun q hq => ?_, fun i hi j hj => ?_⟩
  · simp only [List.zipIdx_cons, List.map_cons, Instr.fill]
    rw [if_neg (by
     simp only [Array.length_toList] at hfit
     simp only [e0, Nat.lt_irrefl, ne_eq, not_true_eq_false, decide_false, Bool.false_or, decide_eq_true_eq, gt_iff_lt]
     omega), hfold]
    exact g1
  · rw [g3 q (by
     simp only [List.length_cons] at hq
     rcases hq with hq | hq
     · left; have := Nat.mul_le_mul_right size (show k ≤ k + 1 by omega); omega
     · right; rw [show k + 1 + vs.length = k + (vs.length + 1) by omega]; exact hq), f2, if_neg (by
     simp only [Array.length_toList, e0, List.length_cons] at hq ⊢
     rcases hq with hq | hq
     · omega
     · have := Nat.mul_le_mul_right size (show k + 1 ≤ k + (vs.length + 1) by omega)
       rw [Nat.add_mul] at this
       omega)]
  · cases i with
    | zero =>
     rw [g3 _ (by left; simp only [Nat.add_zero]; rw [Nat.add_mul]; omega), f2, if_pos (by simp only [Array.length_toList, e0]; simp only [Nat.add_zero]; omega)]
     simp only [Nat.add_zero, Nat.add_sub_cancel_left, List.getElem_cons_zero]
     simp
    | succ i =>
     have := g4 i (by simpa using hi) j hj
     rw [show k + (i + 1) = k + 1 + i by omega, this]
     simp
theorem inOrder_zip (ρ : Operand → Value) : ∀ (l : List (Nat × Operand)) (k : Nat), inOrder k l = true → l.map (fun x => (x.1, ρ x.2)) = ((l.map fun x => ρ x.2).zipIdx k).map fun x => (x.2, x.1)
 | [], _, _ => rfl
 | (j, o) :: l, k, h => by
  simp only [inOrder, Bool.and_eq_true] at h
  have e := Nat.eq_of_beq_eq_true h.1
  subst e
  simp only [List.map_cons, List.zipIdx_cons]
  rw [inOrder_zip ρ l (k + 1) h.2]
theorem takeAll_sound {e : Ty} : ∀ (l : List (Nat × Operand)) (k : Nat) (s s' : St) (g : Gh) (mm : Option Mask) (xs : List e.den), takeAll e s l = some (mm, xs, s') → R g0 w0 N s g a w →
  ∃ g', R g0 w0 N s' g' a w ∧ Le g w g' w ∧ (∀ r, (∀ j z, k ≤ j → r ≠ .idx j :: z) → g'.hdr none r = g.hdr none r) ∧ (∀ b r, (∀ j z, k ≤ j → r ≠ .idx j :: z) → g.own b = some (none, some r) → g'.own b = some (none, some r)) ∧ (∀ i, g'.base i = g.base i) ∧ (∀ i r, g'.hdr (some i) r = g.hdr (some i) r) ∧
   xs.length = l.length ∧ ∀ m, (mm = none ∨ mm = some m) → ∀ i (hi : i < xs.length), ∃ cs o, l[i]? = some o ∧ a.eval o.2 = wrap e cs ∧ ORep g' w none none e m [.idx (k + i)] xs[i] cs
 | [], k, s, s', g, mm, xs, h, hR => by
  simp only [takeAll, Option.some.injEq, Prod.mk.injEq] at h
  obtain ⟨rfl, rfl, rfl⟩ := h
  exact ⟨g, hR, Le.refl _ _, fun _ _ => rfl, fun _ _ _ h => h, fun _ => rfl, fun _ _ => rfl, rfl, fun m _ i hi => by simp at hi⟩
 | (j0, o) :: l, k, s, s', g, mm, xs, h, hR => by
  simp only [takeAll] at h
  split at h
  · rename_i m1 v s1 htk
    split at h
    · rename_i x hc
      have := castTo_some hc
      subst this
      split at h
      · rename_i mm' ys s2 hrec
        obtain ⟨g1, cs, f1, f2, f3, f4, f5, f6⟩ := take_rep hR (hR.ev o) htk [.idx k]
        obtain ⟨g2, r1, r2, r3, r4, r5, r6, r7, r8⟩ := takeAll_sound l (k + 1) s1 s2 g1 mm' ys hrec f2
        have key : (mm = some m1 ∧ xs = x :: ys ∧ s' = s2) ∧ (mm' = none ∨ mm' = some m1) := by
         cases mm' with
         | none => simp only [Option.some.injEq, Prod.mk.injEq] at h; exact ⟨⟨h.1.symm, h.2.1.symm, h.2.2.symm⟩, .inl rfl⟩
         | some m' =>
          cases hm : m1 == m'
          · simp [hm] at h
          · simp only [hm, cond_true, Option.some.injEq, Prod.mk.injEq] at h
            have : m1 = m' := by simpa using hm
            subst this
            exact ⟨⟨h.1.symm, h.2.1.symm, h.2.2.symm⟩, .inr rfl⟩
        obtain ⟨⟨rfl, rfl, rfl⟩, hmm⟩ := key
        refine ⟨g2, r1, f4.trans r2, fun r hr => ?_, fun b r hr e => r4 b r (fun j z hj => hr j z (by omega)) (f5.own b r (fun z e => hr k z (Nat.le_refl _) (by simpa using e)) e), fun i => (r5 i).trans (f5.base i), fun i r => (r6 i r).trans (f5.all i r), by simp [r7], fun m hm i hi => ?_⟩
        · rw [r3 r (fun j z hj => hr j z (by omega)), f5.hdr r (fun z e => hr k z (Nat.le_refl _) (by simpa using e))]
        · have : m = m1 := by rcases hm with hm | hm; · cases hm
                              · injection hm with hm; exact hm.symm
          subst this
          cases i with
          | zero =>
           refine ⟨cs, (j0, o), rfl, f1, ?_⟩
           refine ORep.move r2 _ _ _ _ _ _ ⟨fun z => r3 _ (fun j z' hj e => ?_), fun b z e => ⟨rfl, r4 b _ (fun j z' hj e => ?_) e⟩, fun _ => Iff.rfl⟩ f3
           all_goals
            simp only [List.cons_append, List.nil_append, List.cons.injEq, Step.idx.injEq] at e
            omega
          | succ i =>
           obtain ⟨cs', o', e1, e2, e3⟩ := r8 m hmm i (by simpa using hi)
           exact ⟨cs', o', by simpa using e1, e2, by rw [show k + (i + 1) = k + 1 + i by omega]; exact e3⟩
      · cases h
    · cases h
  · cases h
theorem buildSlice_sound {tab : Tab} (ht : TabOk P tab) (h : R g0 w0 N s g a w) {d : Nat} (hd : d < N) {T : TypeId} {i : TI} (hi : tab.ti T = some i) {e : Ty} (he : i.ty = .list e) {n : Nat} {parts : Array (Nat × Operand)} (hn : n = parts.toList.length) (hord : inOrder 0 parts.toList = true)
  {mm : Option Mask} {xs : List e.den} {s1 : St} (htk : takeAll e s parts.toList = some (mm, xs, s1)) (hf : s1.free (d, 0) = true) (hsmall : n * e.size ≤ 16777216) (m0 : Mask) :
  ∃ w' g' mv, (Instr.buildSlice T n (parts.map fun (i, x) => (i, a.eval x))).run P w = .ok mv w' ∧ R g0 w0 N ((s1.new (d, 0) (.vec (mm.getD m0) e xs)).set d (.ref (d, 0) [])) g' (a.put (some d) mv) w' ∧ ∀ b, b < w.heap.size → w'.heap[b]? = w.heap[b]? := by
 have hok := (ht T i hi).kind
 simp only [he] at hok
 obtain ⟨E, ie, ti, hu, hE, rfl, i1, i2, i3⟩ := hok
 obtain ⟨tE, j1, j2, j3⟩ := (ht E ie hE).info
 have hpos := (ht E ie hE).pos
 obtain ⟨g1, r1, r2, r3, r4, r5, r6, r7, r8⟩ := takeAll_sound parts.toList 0 s s1 g mm xs htk h
 let m := mm.getD m0
 have hm : mm = none ∨ mm = some m := by cases mm <;> simp [m]
 have r8 := r8 m hm
 -- the cells
 let vs := parts.toList.map fun x => a.eval x.2
 have hvl : vs.length = xs.length := by simp [vs, r7]
 have hvs : ∀ q (hq : q < xs.length), ∃ cs, vs[q]? = some (wrap ie.ty cs) ∧ ORep g1 w none none ie.ty m [.idx q] xs[q] cs := fun q hq => by
  obtain ⟨cs, o, e1, e2, e3⟩ := r8 q hq
  exact ⟨cs, by simp [vs, e1, e2], by simpa using e3⟩
 have hvc : ∀ v ∈ vs, v.cells.size = ie.ty.size := fun v hv => by
  obtain ⟨q, hq, e⟩ := List.getElem_of_mem hv
  obtain ⟨cs, e1, e2⟩ := hvs q (by omega)
  have : vs[q]? = some v := by simp [hq, e]
  rw [this] at e1
  injection e1 with e1
  rw [e1, wrap_cells e2.len hpos (ORep.one (by simp) e2)]
  simp [e2.len]
 have hz : (zeroCells ie.ty).length = ie.ty.size := (ORep.zero (g := g) (w := w) ie.ty []).len
 have hzc := wrap_cells hz hpos (ORep.one (by simp) (ORep.zero (g := g) (w := w) ie.ty []))
 let z : Array Value := if n * ie.ty.size = 0 then #[] else (zeroCells ie.ty).toArray
 let cells0 : Array Value := (Array.range (n * ie.ty.size)).map (fun k => z[k % z.size]!)
 have hsz : cells0.size = n * ie.ty.size := by simp [cells0]
 obtain ⟨c, g1', g2', _, g4'⟩ := fill_spec (size := ie.ty.size) vs 0 cells0 hvc (by rw [hsz, Nat.zero_add, hvl, r7, hn]; exact Nat.le_refl _) (by
  have : ∀ (l : List Value) (k : Nat), inOrder k (l.zipIdx k |>.map fun x => (x.2, Operand.global 0)) = true := by
   intro l
   induction l with
   | nil => intro k; rfl
   | cons v l ih => intro k; simp only [List.zipIdx_cons, List.map_cons, inOrder, Bool.and_eq_true]; exact ⟨by simp, ih (k + 1)⟩
  exact this vs 0)
 -- the ghost
 let gm := g1.mv none [] (some (d, 0)) []
 have hmv : ∀ q (hq : q < xs.length), ∃ ds, ORep gm w none (some (d, 0)) ie.ty m [.idx q] xs[q] ds ∧ ∀ j (hj : j < ds.length), c[q * ie.ty.size + j]? = some ds[j] := fun q hq => by
  obtain ⟨cs, e1, e2⟩ := hvs q hq
  refine ⟨cs, ORep.move mv_le _ _ _ _ _ _ ((mv_moved (by simp) (by simp)).at [.idx q]) e2, fun j hj => ?_⟩
  have hl := e2.len
  have := g4' q (by omega) j (by omega)
  rw [Nat.zero_add] at this
  rw [this]
  obtain ⟨hq', e3⟩ := List.getElem?_eq_some_iff.1 e1
  rw [e3, wrap_cells hl hpos (ORep.one (by simp) e2)]
  simp [hj]
 obtain ⟨g2, k1, k2⟩ := r1.newVec (g1 := gm) mv_le (id := (d, 0)) hd (fun j hj => mv_same (by simp) (by simpa using hj)) (fun _ => mv_none) hf (m := m) (xs := xs) (c := c) (e := E) (cap := n) (by rw [r7, hn]; exact Nat.le_refl _) (by
  simp only [maxLen]
  have := Nat.mul_le_mul_left n hpos
  omega) (by rw [g2', hsz]; exact Nat.le_refl _) hmv
 refine ⟨_, g2, g2.hdr (some (d, 0)) [], ?_, k1.set hd (ref_rep new_sig), fun b hb => Below.heap_alloc w _ b hb⟩
 rw [k2, r7, ← hn]
 have hpl : (parts.map fun (i, x) => (i, a.eval x)).toList = (vs.zipIdx 0).map fun x => (x.2, x.1) := by
  rw [Array.toList_map]
  exact inOrder_zip a.eval parts.toList 0 hord
 have hfl : Instr.fill (fun i => some (i * ie.ty.size, ie.ty.size)) ((Array.range (n * ie.ty.size)).map (fun x => z[x % z.size]!)) (parts.map fun x => (x.fst, a.eval x.snd)).toList = some c := by
  have : (parts.map fun x => (x.fst, a.eval x.snd)).toList = (vs.zipIdx 0).map fun x => (x.2, x.1) := hpl
  rw [this]
  exact g1'
 have hs16 : ¬ n * ie.ty.size > 2 ^ 24 := by omega
 by_cases h0 : n * ie.ty.size = 0
 · have hz0 : z = #[] := by simp [z, h0]
   rw [hz0] at hfl
   simp only [Instr.buildSlice, Sem.run_bind, run_underlying hu, Result.andThen_ok, sizeOf_ok ht hE, if_neg hs16, if_pos h0, Sem.run_pure, hfl]
   rfl
 · have hz0 : z = (zeroCells ie.ty).toArray := by simp only [z, if_neg h0]
   rw [hz0, ← hzc] at hfl
   have hzv : (zeroValue E).run P w = .ok (wrap ie.ty (zeroCells ie.ty)) w := by simp [zeroValue, typeInfo, j1, j3]
   simp only [Instr.buildSlice, Sem.run_bind, run_underlying hu, Result.andThen_ok, sizeOf_ok ht hE, if_neg hs16, if_neg h0, Sem.run_pure, hzv, hfl]
   rfl
end
end Go.Ve
namespace Go.Ve
open Go Go.RowKit
section
variable {P : Program} {g0 : Gh} {w0 : Fra} {N : Nat} {s : St} {g : Gh} {a : Act} {w : World} {α : Type} {r : α} {Q : Exit → Act → World → Prop}
theorem flat {ad : Addr} (ha : ad.spot = none) {size : Nat} {E : Nat → List Value → Prop} : ∀ n, (∀ i, i < n → ∃ ds, cellsAt w (ad.add (i * size)) ds ∧ E i ds ∧ ds.length = size) →
  ∃ news : List Value, news.length = n * size ∧ cellsAt w ad news ∧ ∀ i, i < n → ∃ ds, E i ds ∧ ds.length = size ∧ ∀ j (hj : j < ds.length), news[i * size + j]? = some ds[j]
 | 0, _ => ⟨[], by simp, fun j hj => by simp at hj, fun i hi => by omega⟩
 | n + 1, h => by
  obtain ⟨news, h1, h2, h3⟩ := flat ha n (fun i hi => h i (by omega))
  obtain ⟨ds, d1, d2, d3⟩ := h n (by omega)
  refine ⟨news ++ ds, by simp [h1, d3, Nat.add_mul], cellsAt.join ha h2 (by rw [h1]; exact d1), fun i hi => ?_⟩
  by_cases e : i = n
  · subst e
    exact ⟨ds, d2, d3, fun j hj => by rw [List.getElem?_append_right (by omega), h1]; simp [hj]⟩
  · obtain ⟨es, e1, e2, e3⟩ := h3 i (by omega)
    refine ⟨es, e1, e2, fun j hj => ?_⟩
    have := Nat.mul_le_mul_right size (show i + 1 ≤ n by omega)
    rw [Nat.add_mul] at this
    rw [List.getElem?_append_left (by omega)]
    exact e3 j hj
def _root_.Go.Ve.Gh.join (g : Gh) (id : Id) (n : Nat) (hv : Value) : Gh where
 hdr i r := if i = some id then match r with
  | [] => hv
  | .idx j :: z => if j < n then g.hdr none (.fst :: .idx j :: z) else g.hdr none (.snd :: .idx (j - n) :: z)
  | r => g.hdr none (.fst :: r)
  else g.hdr i r
 base := g.base
 own b := match g.own b with
  | some (none, some (.fst :: z)) => some (some id, some z)
  | some (none, some (.snd :: .idx i :: z)) => some (some id, some (.idx (n + i) :: z))
  | o => o
theorem join_none {id : Id} {n : Nat} {hv : Value} {b : Nat} (h : g.own b = none) : (g.join id n hv).own b = none := by simp [Gh.join, h]
theorem join_le {id : Id} {n : Nat} {hv : Value} : Le g w (g.join id n hv) w := ⟨rfl, rfl, rfl, Nat.le_refl _, fun b _ h => ⟨rfl, join_none h⟩, fun b _ h => ⟨rfl, by simp [Gh.join, h]⟩⟩
theorem join_own_ne {id : Id} {n : Nat} {hv : Value} {b : Nat} {i : Id} {q : Option (List Step)} (h : g.own b = some (some i, q)) : (g.join id n hv).own b = some (some i, q) := by simp [Gh.join, h]
theorem join_same {id : Id} {n : Nat} {hv : Value} {i : Id} (hi : i ≠ id) : Same g w (g.join id n hv) w (some i) := ⟨fun r => by simp [Gh.join, hi], fun _ _ => rfl, fun b q h => ⟨rfl, join_own_ne h⟩⟩
theorem ORep.joinL {id : Id} {n : Nat} {hv : Value} {w' : World} (hle : Le g w (g.join id n hv) w') (hk : ∀ b z, g.own b = some (none, some z) → z ≠ [.fst] → w'.heap[b]? = w.heap[b]?) {t : Ty} {m : Mask} {i : Nat} (hi : i < n) {x : t.den} {cs : List Value} (h : ORep g w none none t m [.fst, .idx i] x cs) : ORep (g.join id n hv) w' none (some id) t m [.idx i] x cs :=
 ORep.move hle _ _ _ _ _ _ ⟨fun z => by simp [Gh.join, hi], fun b z e => ⟨hk b _ e (by simp), by simp [Gh.join, e]⟩, fun _ => ⟨(fun e => by cases e), (fun e => by cases e)⟩⟩ h
theorem ORep.joinR {id : Id} {n : Nat} {hv : Value} {w' : World} (hle : Le g w (g.join id n hv) w') (hk : ∀ b z, g.own b = some (none, some z) → z ≠ [.fst] → w'.heap[b]? = w.heap[b]?) {t : Ty} {m : Mask} {i : Nat} {x : t.den} {cs : List Value} (h : ORep g w none none t m [.snd, .idx i] x cs) : ORep (g.join id n hv) w' none (some id) t m [.idx (n + i)] x cs :=
 ORep.move hle _ _ _ _ _ _ ⟨fun z => by simp [Gh.join]; intro h; omega, fun b z e => ⟨hk b _ e (by simp), by simp [Gh.join, e]⟩, fun _ => ⟨(fun e => by cases e), (fun e => by cases e)⟩⟩ h
theorem run_append_room' {T ty E : TypeId} {ti : TypeInfo} (hu : P.underlying T = some (.slice E)) (i1 : P.info? E = some ti) {ax : Addr} (hax : ax.spot = none) {c : Array Value} {el : TypeId} (hc : w.heap[ax.block]? = some (.cells c el (0, 0))) {n m cap capy : Nat} {ad : Option Addr} {news : List Value}
  (hl : news.length = m * ti.size) (hnc : ∀ b, ad = some b → ∀ j v, news[j]? = some v → w.cell? (b.add j) = some v) (hnn : ad = none → m = 0) (h1 : ∀ u ∈ news, u.oneCell' = true) (hroom : n + m ≤ cap) (hfit : ax.off + n * ti.size + news.length ≤ c.size) :
  (Builtin.append_ #[T, T] ty #[.slice (some ax) n cap, .slice ad m capy]).run P w = .ok (.slice (some ax) (n + m) cap) (w.setRow ax.block (c.toList.take (ax.off + n * ti.size) ++ news ++ c.toList.drop (ax.off + n * ti.size + news.length)).toArray) := by
 have hst := run_storeCells_at P ax.block (ax.off + n * ti.size) el news 0 c w hc (by simpa using hfit) h1
 simp only [Nat.add_zero] at hst
 rw [← add_eq hax] at hst
 cases ad with
 | none =>
  have hm := hnn rfl
  subst hm
  have hnews : news = [] := List.eq_nil_of_length_eq_zero (by simpa using hl)
  subst hnews
  have hst' : (storeCells (ax.add (n * ti.size)) []).run P w = .ok () w := rfl
  rw [hst'] at hst
  injection hst with _ hst
  rw [← hst]
  simp [Builtin.append_, run_underlying hu, Go.sizeOf, typeInfo, i1, Builtin.lenOf, hroom, run_firstCells_none, hst']
  intro hcon; omega
 | some b =>
  have hf := run_firstCells_some (P := P) w ti.size m b m capy news hl (hnc b rfl)
  have hf' : (Builtin.firstCells ti.size m (.slice (some b) m capy)).run P w = .ok news.toArray w := hf
  simp [Builtin.append_, run_underlying hu, Go.sizeOf, typeInfo, i1, Builtin.lenOf, hroom, hf', hst]
theorem append_core {tab : Tab} (ht : TabOk P tab) (h : R g0 w0 N s g a w) {d : Nat} (hd : d < N) (hf : s.free (d, 0) = true) {T ty : TypeId} {i : TI} (hi : tab.ti T = some i) {e : Ty} (he : i.ty = .list e) {m : Mask} {xs ys : List e.den} {mx : Value}
  (hx : ORep g w none none (.list e) (.own m) [.fst] xs [mx]) {ad : Option Addr} {cap : Nat} {news : List Value} (hnl : news.length = ys.length * e.size) (hnc : ∀ b, ad = some b → cellsAt w b news) (hnn : ad = none → ys = [])
  (hone : ∀ v ∈ news, v.oneCell' = true) (hE : ∀ k (hk : k < ys.length), ∃ ds, ORep g w none none e m [.snd, .idx k] ys[k] ds ∧ ds.length = e.size ∧ ∀ j (hj : j < ds.length), news[k * e.size + j]? = some ds[j])
  (hb : (xs.length + ys.length) * i.bytes ≤ 70368744177664) :
  ∃ w' g' mv, (Builtin.append_ #[T, T] ty #[mx, .slice ad ys.length cap]).run P w = .ok mv w' ∧ R g0 w0 N ((s.new (d, 0) (.vec m e (xs ++ ys))).set d (.ref (d, 0) [])) g' (a.put (some d) mv) w' := by
 have hok := (ht T i hi).kind
 simp only [he] at hok
 obtain ⟨E, ie, ti, hu, hE', rfl, i1, i2, i3⟩ := hok
 obtain ⟨tE, j1, j2, j3⟩ := (ht E ie hE').info
 have hpos := (ht E ie hE').pos
 rw [i1] at j1
 injection j1 with j1
 subst j1
 have hbig : xs.length + ys.length ≤ 70368744177664 := by
  have := Nat.mul_le_mul_left (xs.length + ys.length) (show 1 ≤ i.bytes by omega)
  omega
 have hbt : (xs.length + ys.length) * ti.bytes ≤ 140737488355328 := by rw [i2]; omega
 have hzl : (zeroCells ie.ty).length = ie.ty.size := (ORep.zero (g := g) (w := w) ie.ty []).len
 have hzc := wrap_cells hzl hpos (ORep.one (by simp) (ORep.zero (g := g) (w := w) ie.ty []))
 have hcase : ∀ b, ad = some b → ∀ j v, news[j]? = some v → w.cell? (b.add j) = some v := fun b e j v hv => by
  obtain ⟨hj, e'⟩ := List.getElem?_eq_some_iff.1 hv
  rw [hnc b e j hj, e']
 rcases hx with ⟨hx, _⟩ | ⟨_, hx, hL⟩
 · cases hx
 · injection hx with hx _
   -- a new row
   have grow : ∀ (sCap : Nat) (olds : List Value), olds.length = xs.length * ie.ty.size → (∀ k (hk : k < xs.length), ∃ ds, ORep g w none none ie.ty m [.fst, .idx k] xs[k] ds ∧ ds.length = ie.ty.size ∧ ∀ j (hj : j < ds.length), olds[k * ie.ty.size + j]? = some ds[j]) →
    ∃ g', R g0 w0 N (s.new (d, 0) (.vec m ie.ty (xs ++ ys))) g' a (w.drew.alloc (.cells (olds.toArray ++ news.toArray ++ Builtin.zeroCells (wrap ie.ty (zeroCells ie.ty)).cells (grownCap w (xs.length + ys.length) sCap E - (xs.length + ys.length))) E)) ∧
     g'.hdr (some (d, 0)) [] = .slice (some ⟨w.heap.size, 0, none⟩) (xs.length + ys.length) (grownCap w (xs.length + ys.length) sCap E) := by
    intro sCap olds ho hoE
    have hge := grownCap_ge w (xs.length + ys.length) sCap E
    have hcm := grownCap_le_maxLen w (xs.length + ys.length) sCap E (by simp only [maxLen]; omega)
    have hdr : R g0 w0 N s g a w.drew := h.drew 1
    have hlen : (xs ++ ys).length = xs.length + ys.length := by simp
    have hle0 : Le g w.drew (g.join (d, 0) xs.length .nilFunc) w.drew := join_le
    have hO : ∀ {t : Ty} {m : Mask} {p : List Step} {x : t.den} {cs : List Value}, ORep g w none none t m p x cs → ORep g w.drew none none t m p x cs := fun hh => ORep.move (Le.drew g w 1) _ _ _ _ _ _ ⟨fun _ => rfl, fun _ _ k => ⟨rfl, k⟩, fun _ => Iff.rfl⟩ hh
    obtain ⟨g', k1, k2⟩ := hdr.newVec (g1 := g.join (d, 0) xs.length .nilFunc) hle0 (id := (d, 0)) hd (fun j hj => join_same hj) (fun _ => join_none) hf (m := m) (xs := xs ++ ys)
     (c := olds.toArray ++ news.toArray ++ Builtin.zeroCells (wrap ie.ty (zeroCells ie.ty)).cells (grownCap w (xs.length + ys.length) sCap E - (xs.length + ys.length))) (e := E) (cap := grownCap w (xs.length + ys.length) sCap E) (by rw [hlen]; exact hge) hcm
     (by
      simp only [Array.size_append, List.size_toArray, size_zeroCells, hzc, ho, hnl, hzl, ← Nat.add_mul]
      apply Nat.mul_le_mul_right
      omega) (fun k hk => by
      rw [hlen] at hk
      by_cases hkx : k < xs.length
      · obtain ⟨ds, d1, d2, d3⟩ := hoE k hkx
        refine ⟨ds, ?_, fun j hj => ?_⟩
        · rw [List.getElem_append_left hkx]; exact ORep.joinL hle0 (fun _ _ _ _ => rfl) hkx (hO d1)
        · have hlt : k * ie.ty.size + j < olds.length := by
           have := d3 j hj
           exact (List.getElem?_eq_some_iff.1 this).1
          rw [Array.getElem?_append_left (by simp; omega), Array.getElem?_append_left (by simpa using hlt)]
          simpa using d3 j hj
      · obtain ⟨ds, d1, d2, d3⟩ := hE (k - xs.length) (by omega)
        refine ⟨ds, ?_, fun j hj => ?_⟩
        · rw [List.getElem_append_right (by omega)]
          have := ORep.joinR (id := (d, 0)) (n := xs.length) (hv := .nilFunc) hle0 (fun _ _ _ _ => rfl) (hO d1)
          rwa [show xs.length + (k - xs.length) = k by omega] at this
        · have hlt : (k - xs.length) * ie.ty.size + j < news.length := (List.getElem?_eq_some_iff.1 (d3 j hj)).1
          have hk' : k * ie.ty.size + j = olds.length + ((k - xs.length) * ie.ty.size + j) := by
           rw [ho, ← Nat.add_assoc, ← Nat.add_mul]
           congr 2
           omega
          rw [hk', Array.getElem?_append_left (by simp; omega), Array.getElem?_append_right (by simp)]
          simpa using d3 j hj)
    exact ⟨g', k1, by rw [k2, hlen]; rfl⟩
   rcases hL with ⟨q1, q2⟩ | ⟨ax, capx, c, el, q1, q2, q3, q4, q5, q6, q7, q8⟩
   · -- nil
     have hxs : xs = [] := List.eq_nil_of_length_eq_zero q2
     subst hxs
     rw [hx, q1]
     by_cases hy : ys.length = 0
     · have hys : ys = [] := List.eq_nil_of_length_eq_zero hy
       subst hys
       let gj := g.join (d, 0) 0 (.slice none 0 0)
       have hj0 : gj.hdr (some (d, 0)) [] = .slice none 0 0 := by simp [gj, Gh.join]
       have hR := h.new (g2 := gj) (id := (d, 0)) hd join_le (o := .vec m ie.ty []) (fun j hj => join_same hj) hf (.inl ⟨hj0, rfl⟩) (fun b o hb => by
        cases k' : g.own b with
        | none => rw [show gj.own b = none from join_none k'] at hb; cases hb
        | some o' => exact h.lives b o' k')
       refine ⟨w, gj, gj.hdr (some (d, 0)) [], ?_, hR.set hd (ref_rep new_sig)⟩
       rw [hj0]
       cases ad with
       | none => simp [Builtin.append_, run_underlying hu, Go.sizeOf, typeInfo, i1, Builtin.lenOf, Builtin.firstCells]
       | some b => simp [Builtin.append_, run_underlying hu, Go.sizeOf, typeInfo, i1, Builtin.lenOf, Builtin.firstCells, loadCells, loadCellsFrom]
     · cases ad with
       | none => exact absurd (by rw [hnn rfl]; rfl) hy
       | some b =>
        obtain ⟨g', k1, k2⟩ := grow 0 [] (by simp) (fun k hk => by simp at hk)
        refine ⟨_, g', g'.hdr (some (d, 0)) [], ?_, k1.set hd (ref_rep new_sig)⟩
        rw [k2]
        have hr := run_append_nil (P := P) w T ty E ti _ hu i1 j3 b ys.length cap news (by rw [hnl, j2]) (hcase b rfl) (by omega) (by omega) (by simp only [List.length_nil, Nat.zero_add] at hbt; omega)
        simp only [List.length_nil, Nat.zero_add, Array.empty_append] at hr ⊢
        rw [hr]
   · obtain ⟨olds, o1, o2, o3⟩ := flat q2 (w := w) xs.length (fun k hk => by
      obtain ⟨ds, d1, hk', d2⟩ := q8 k hk
      exact ⟨ds, d1, (⟨hk', d2⟩ : ∃ h : k < xs.length, ORep g w none none ie.ty m ([.fst] ++ [.idx k]) xs[k] ds), d2.len⟩)
     by_cases hroom : xs.length + ys.length ≤ capx
     · -- in place
       let id : Id := (d, 0)
       let hv : Value := .slice (some ax) (xs.length + ys.length) capx
       let g2 := g.join id xs.length hv
       have hfit : ax.off + xs.length * ie.ty.size + news.length ≤ c.size := by
        rw [hnl, Nat.add_assoc, ← Nat.add_mul]
        have := Nat.mul_le_mul_right ie.ty.size hroom
        omega
       let w2 := w.setRow ax.block (c.toList.take (ax.off + xs.length * ie.ty.size) ++ news ++ c.toList.drop (ax.off + xs.length * ie.ty.size + news.length)).toArray
       have hrun := run_append_room' (P := P) (w := w) (ty := ty) (capy := cap) hu i1 q2 q4 (m := ys.length) (by rw [hnl, j2]) hcase (fun e => by rw [hnn e]; rfl) hone hroom (by rw [j2]; exact hfit)
       rw [j2] at hrun
       have hlab : g2.own ax.block = some (some id, some []) := by simp [g2, Gh.join, q3]
       have hle : Le g w g2 w2 := join_le.trans (setRow_le (by rw [hlab]; simp))
       have h0 : g2.hdr (some id) [] = hv := by simp [g2, Gh.join]
       obtain ⟨k1, k2⟩ := setRow_cells q4 hfit
       have hlen : (xs ++ ys).length = xs.length + ys.length := by simp
       have hoth : ∀ b z, g.own b = some (none, some z) → z ≠ [.fst] → w2.heap[b]? = w.heap[b]? := fun b z hb hz => setRow_other w _ _ _ (fun e => by rw [e, q3] at hb; injection hb with hb; injection hb with _ hb; injection hb with hb; exact hz hb.symm)
       have hR := h.new (g2 := g2) (w2 := w2) (id := id) hd hle (o := .vec m ie.ty (xs ++ ys)) (fun j hj => ⟨fun r => by simp [g2, Gh.join, hj], fun _ _ => rfl, fun b q hb => ⟨setRow_other w _ _ _ (fun e => by rw [e, q3] at hb; cases hb), join_own_ne hb⟩⟩) hf
        (.inr ⟨ax, capx, _, el, by rw [h0, hlen], q2, hlab, setRow_heap w _ c _ el _ q4, by rw [hlen]; exact hroom, q6, by simp; omega, fun k hk => by
         rw [hlen] at hk
         by_cases hkx : k < xs.length
         · obtain ⟨ds, d1, hk', d2⟩ := q8 k hkx
           have dl := d2.len
           refine ⟨ds, fun j hj => ?_, by rw [hlen]; exact hk, ?_⟩
           · have := d1 j hj
             rw [add_add q2, add_eq q2] at this ⊢
             rw [← this]
             refine k2 _ (.inl ?_)
             have := Nat.mul_le_mul_right ie.ty.size (show k + 1 ≤ xs.length from hkx)
             rw [Nat.add_mul] at this
             omega
           · rw [List.getElem_append_left hkx]
             exact ORep.joinL hle hoth hkx d2
         · obtain ⟨ds, d1, d2, d3⟩ := hE (k - xs.length) (by omega)
           refine ⟨ds, fun j hj => ?_, by rw [hlen]; exact hk, ?_⟩
           · obtain ⟨hlt, e3⟩ := List.getElem?_eq_some_iff.1 (d3 j hj)
             have := k1 _ hlt
             rw [e3] at this
             rw [← this, add_add q2, add_eq q2, add_eq rfl]
             congr 2
             simp only
             have : k * ie.ty.size = xs.length * ie.ty.size + (k - xs.length) * ie.ty.size := by rw [← Nat.add_mul]; congr 1; omega
             omega
           · rw [List.getElem_append_right (by omega)]
             have := ORep.joinR (id := id) (n := xs.length) (hv := hv) hle hoth d1
             rwa [show xs.length + (k - xs.length) = k by omega] at this⟩) (fun b o hb => by
           simp only [w2, World.setRow, Array.size_modify]
           cases k' : g.own b with
           | none => rw [show g2.own b = none from join_none k'] at hb; cases hb
           | some o' => exact h.lives b o' k')
       refine ⟨w2, g2, g2.hdr (some id) [], ?_, hR.set hd (ref_rep new_sig)⟩
       rw [hx, q1, h0]
       exact hrun
     · obtain ⟨g', k1, k2⟩ := grow capx olds o1 (fun k hk => by
        obtain ⟨ds, ⟨hk', d1⟩, d2, d3⟩ := o3 k hk
        exact ⟨ds, d1, d2, d3⟩)
       refine ⟨_, g', g'.hdr (some (d, 0)) [], ?_, k1.set hd (ref_rep new_sig)⟩
       rw [k2, hx, q1]
       have holds : ∀ j v, olds[j]? = some v → w.cell? (ax.add j) = some v := fun j v hv => by
        obtain ⟨hj, e'⟩ := List.getElem?_eq_some_iff.1 hv
        rw [o2 j hj, e']
       cases ad with
       | none => exact absurd (by rw [hnn rfl]; simpa using q5) hroom
       | some b =>
        exact run_append_grow (P := P) w T ty E ti _ hu i1 j3 ax xs.length capx olds (by rw [o1, j2]) holds b ys.length cap news (by rw [hnl, j2]) (hcase b rfl) (by omega) (by omega) (growslice_fits (by omega) hbt)
structure Row (g : Gh) (w : World) (t : Ty) (ys : List t.den) (mv : Value) : Prop where
 row : ∃ ad cap news, mv = .slice ad ys.length cap ∧ news.length = ys.length * t.size ∧ (∀ b, ad = some b → cellsAt w b news) ∧ (ad = none → ys = []) ∧ (∀ v ∈ news, v.oneCell' = true) ∧
  ∀ k (hk : k < ys.length), ∃ ds, SRep g w t ys[k] ds ∧ ds.length = t.size ∧ ∀ j (hj : j < ds.length), news[k * t.size + j]? = some ds[j]
theorem ones {size n : Nat} (hs : 0 < size) {news : List Value} (hl : news.length = n * size) (h : ∀ k, k < n → ∃ ds : List Value, (∀ v ∈ ds, v.oneCell' = true) ∧ ds.length = size ∧ ∀ j (hj : j < ds.length), news[k * size + j]? = some ds[j]) : ∀ v ∈ news, v.oneCell' = true := by
 intro v hv
 obtain ⟨q, hq, e⟩ := List.getElem_of_mem hv
 have h1 : q / size < n := by rw [Nat.div_lt_iff_lt_mul hs]; omega
 have h2 : q % size < size := Nat.mod_lt _ hs
 obtain ⟨ds, d1, d2, d3⟩ := h (q / size) h1
 have := d3 (q % size) (by omega)
 rw [Nat.div_add_mod' q size] at this
 have : news[q]? = some v := by simp [hq, e]
 rename_i hx
 rw [hx] at this
 injection this with this
 rw [← this]
 exact d1 _ (List.getElem_mem _)
theorem Row.of_srep {t : Ty} (hp : 0 < t.size) {ys : List t.den} {cs : List Value} (h : SRep g w (.list t) ys cs) : Row g w t ys (wrap (.list t) cs) := by
 rcases h.list with ⟨h1, h2⟩ | ⟨ad, cap, h1, h2, h3, h4⟩
 · subst h2
   exact ⟨none, 0, [], by rw [h1]; rfl, by simp, fun _ e => (by cases e), fun _ => rfl, by simp, fun k hk => by simp at hk⟩
 · by_cases hz : ys.length = 0
   · have hy : ys = [] := List.eq_nil_of_length_eq_zero hz
     subst hy
     exact ⟨some ad, cap, [], by rw [h1], by simp, fun b' e j hj => by simp at hj, fun _ => rfl, by simp, fun k hk => by simp at hk⟩
   obtain ⟨news, n1, n2, n3⟩ := flat (h2 (by omega)) (w := w) (E := fun k ds => ∃ hk : k < ys.length, SRep g w t ys[k] ds) ys.length (fun k hk => by
    obtain ⟨_, _, ds, d1, d2⟩ := h4 k hk
    exact ⟨ds, d1, ⟨hk, d2⟩, d2.len⟩)
   refine ⟨some ad, cap, news, h1, n1, (fun b e => by injection e with e; subst e; exact n2), (fun e => by cases e), ones hp n1 (fun k hk => ?_), fun k hk => ?_⟩
   · obtain ⟨ds, ⟨hk', d1⟩, d2, d3⟩ := n3 k hk
     exact ⟨ds, d1.one, d2, d3⟩
   · obtain ⟨ds, ⟨hk', d1⟩, d2, d3⟩ := n3 k hk
     exact ⟨ds, d1, d2, d3⟩
theorem Row.of_own {t : Ty} (hp : 0 < t.size) (ht : t.lists = false) {hl : Option (RId × List Step)} {id : RId} {p : List Step} {m : Mask} {n : Nat} {ys zs : List t.den} (hn : n = zs.length) {E : Nat → List Value → Prop} (hE : ∀ k ds, E k ds → ∃ h : k < zs.length, ORep g w hl id t m (p ++ [.idx k]) zs[k] ds)
  {lo hi : Nat} (hlo : lo ≤ hi) (hhi : hi ≤ zs.length) (hys : ys = (List.take hi zs).drop lo) (h : LRep g w id p n t.size E) {mv : Value} (hmv : (g.hdr id p = .slice none 0 0 ∧ mv = .slice none 0 0) ∨ ∃ a len cap b, g.hdr id p = .slice (some a) len cap ∧ (lo < cap → b = a.add (lo * t.size)) ∧ mv = .slice (some b) (hi - lo) (cap - lo)) : Row g w t ys mv := by
 subst hn
 have hlen : ys.length = hi - lo := by rw [hys]; simp; omega
 rcases h with ⟨h1, h2⟩ | ⟨ad, cap, c, el, q1, q2, q3, q4, q5, q6, q7, q8⟩
 · have hy : ys = [] := List.eq_nil_of_length_eq_zero (by omega)
   subst hy
   rcases hmv with ⟨_, e⟩ | ⟨_, _, _, _, e, _⟩
   · exact ⟨none, 0, [], by rw [e]; rfl, by simp, fun _ e => (by cases e), fun _ => rfl, by simp, fun k hk => by simp at hk⟩
   · rw [h1] at e; cases e
 · rcases hmv with ⟨e, _⟩ | ⟨a', len', cap', b, e1, e2, e3⟩
   · rw [q1] at e; cases e
   · rw [q1] at e1
     injection e1 with e1 e1' e1''
     injection e1 with e1
     subst e1 e1' e1''
     have hel : ∀ k, k < hi - lo → ∃ ds, cellsAt w (b.add (k * t.size)) ds ∧ (∃ hk : k < ys.length, SRep g w t ys[k] ds) ∧ ds.length = t.size := fun k hk => by
      obtain ⟨ds, d1, d2⟩ := q8 (lo + k) (by omega)
      obtain ⟨hk', d2⟩ := hE _ _ d2
      have d3 := ORep.plain _ _ _ _ _ ht d2
      refine ⟨ds, by rw [e2 (by omega), add_add q2, ← Nat.add_mul]; exact d1, ⟨by omega, ?_⟩, d3.len⟩
      have : ys[k]'(by omega) = zs[lo + k] := by subst hys; simp
      rw [this]
      exact d3
     by_cases hz : hi - lo = 0
     · have hy : ys = [] := List.eq_nil_of_length_eq_zero (by omega)
       subst hy
       exact ⟨some b, cap - lo, [], by rw [e3, hz]; rfl, by simp, fun b' e j hj => by simp at hj, fun _ => rfl, by simp, fun k hk => by simp at hk⟩
     · have hb : b.spot = none := by rw [e2 (by omega)]; exact add_spot q2 _
       obtain ⟨news, n1, n2, n3⟩ := flat hb (hi - lo) hel
       refine ⟨some b, cap - lo, news, by rw [e3, hlen], by rw [n1, hlen], (fun b' e => by injection e with e; subst e; exact n2), (fun e => by cases e), ones hp n1 (fun k hk => ?_), fun k hk => ?_⟩
       · obtain ⟨ds, ⟨hk', d1⟩, d2, d3⟩ := n3 k hk
         exact ⟨ds, d1.one, d2, d3⟩
       · obtain ⟨ds, ⟨hk', d1⟩, d2, d3⟩ := n3 k (by omega)
         exact ⟨ds, d1, d2, d3⟩
theorem look_row (h : R g0 w0 N s g a w) {A : TV} {mv : Value} (hA : TRep g w s.sig A mv) {t : Ty} (hp : 0 < t.size) (ht : t.lists = false) {ys : List t.den} (hl : s.look (.list t) A = some ⟨.list t, ys⟩) : Row g w t ys mv := by
 cases A with
 | val v =>
  simp only [St.look, Option.some.injEq] at hl
  subst hl
  obtain ⟨cs, h1, h2⟩ := hA.val
  rw [h2]
  exact Row.of_srep hp h1
 | nil =>
  simp only [St.look, Option.some.injEq, Val.mk.injEq, true_and] at hl
  have hl := eq_of_heq hl
  subst hl
  have hA : mv = .slice none 0 0 := hA
  exact ⟨none, 0, [], by rw [hA]; rfl, by simp, fun _ e => (by cases e), fun _ => rfl, by simp, fun k hk => by simp at hk⟩
 | ref id p =>
  obtain ⟨e1, t', e2⟩ := hA.ref
  simp only [St.look] at hl
  split at hl
  · rename_i m u xs hs
    simp only [Option.some.injEq, Val.mk.injEq, Ty.list.injEq] at hl
    obtain ⟨rfl, hl⟩ := hl
    have hl := eq_of_heq hl
    subst hl
    obtain ⟨E, hE, hE2⟩ := h.header hs (fun sg hsg => (e2 sg hsg).2)
    refine Row.of_own hp ht rfl hE2 (Nat.zero_le _) (Nat.le_refl _) (by simp) hE ?_
    rcases hE with ⟨q1, _⟩ | ⟨ad, cap, c, el, q1, _⟩
    · exact .inl ⟨q1, by rw [e1, q1]⟩
    · exact .inr ⟨ad, _, cap, ad, q1, fun _ => by simp [Go.Ve.add_zero], by rw [e1, q1]; simp⟩
  · cases hl
 | sub id p lo hi =>
  obtain ⟨t', e1, e2, e3⟩ := hA.sub
  simp only [St.look] at hl
  split at hl
  · rename_i m u xs hs
    simp only [Option.some.injEq, Val.mk.injEq, Ty.list.injEq] at hl
    obtain ⟨rfl, hl⟩ := hl
    have hl := eq_of_heq hl
    subst hl
    obtain ⟨sg, k1, k2⟩ := seen_sig hs
    have k3 := (e1 sg k1).1
    rw [k3] at k2
    injection k2 with k2
    injection k2 with k2
    subst k2
    obtain ⟨E, hE, hE2⟩ := h.header hs (fun sg hsg => (e1 sg hsg).2)
    rcases e3 with ⟨q1, q2, q3⟩ | ⟨ad, len, cap, b, q1, q2, q3, q4, q5, q51, q52, q53, q6⟩
    · subst q2
      exact Row.of_own hp ht rfl hE2 e2 (by omega) rfl hE (.inl ⟨q1, q3⟩)
    · have hlen : hi ≤ xs.length := by
       rcases hE with ⟨z, _⟩ | ⟨_, _, _, _, z, _⟩
       · rw [z] at q1; cases q1
       · rw [z] at q1; injection q1 with _ q1 _; omega
      exact Row.of_own hp ht rfl hE2 e2 hlen rfl hE (.inr ⟨ad, len, cap, b, q1, q5, q6⟩)
  · cases hl
 | pr x y => simp [St.look] at hl
 | _ => simp [St.look] at hl
theorem append_sound {tab : Tab} (ht : TabOk P tab) (h : R g0 w0 N s g a w) {d : Nat} (hd : d < N) {T ty : TypeId} {i : TI} (hi : tab.ti T = some i) {e : Ty} (he : i.ty = .list e) {x y : Operand} {K : St → Option α} (hk : appendV e i.bytes d s (s.ev x) (s.ev y) K = some r) :
  ∃ w' s' g' mv, (Builtin.append_ #[T, T] ty #[a.eval x, a.eval y]).run P w = .ok mv w' ∧ R g0 w0 N s' g' (a.put (some d) mv) w' ∧ K s' = some r := by
 have hok := (ht T i hi).kind
 simp only [he] at hok
 obtain ⟨E, ie, ti, hu, hE', rfl, i1, i2, i3⟩ := hok
 have hpos := (ht E ie hE').pos
 unfold appendV at hk
 split at hk
 · rename_i m v s1 htk
   obtain ⟨g1, cs, f1, f2, f3, f4, f5, f6⟩ := take_rep h (h.ev x) htk [.fst]
   split at hk
   · rename_i xs hc
     have := castTo_some hc
     subst this
     have hcs : ∃ c, cs = [c] := by have := f3.len; exact List.length_eq_one_iff.1 this
     obtain ⟨c, rfl⟩ := hcs
     have f1 : a.eval x = c := f1
     have hy1 : TRep g1 w s1.sig (s.ev y) (a.eval y) := TRep.le f4 _ _ (fun id _ => ⟨f5.all id, f5.base id, fun sg hs => by
      simp only [St.sig] at hs ⊢
      cases e : s1.obj id with
      | none => simp [e] at hs
      | some o => rw [f6 _ _ e]; rw [e] at hs; exact hs⟩) (h.ev y)
     cases hls : ie.ty.lists
     · simp only [hls, cond_false] at hk
       split at hk
       · rename_i w' hlk
         split at hk
         · rename_i ys hc2
           have := castTo_some hc2
           subst this
           cases hf : s1.free (d, 0)
           · simp [hf] at hk
           · simp only [hf, cond_true] at hk
             obtain ⟨hg, hk⟩ := guardB_some hk
             simp only [decide_eq_true_eq] at hg
             obtain ⟨ad, cap, news, n1, n2, n3, n4, n5, n6⟩ := (look_row h (h.ev y) hpos hls hlk).row
             obtain ⟨w2, g2, mv, k1, k2⟩ := append_core (ty := ty) ht f2 hd hf hi he f3 n2 n3 n4 n5 (fun k hk => by
              obtain ⟨ds, d1, d2, d3⟩ := n6 k hk
              exact ⟨ds, ORep.of_plain _ _ _ _ _ hls (d1.le f4), d2, d3⟩) hg
             exact ⟨w2, _, g2, mv, by rw [f1, n1]; exact k1, k2, hk⟩
         · cases hk
       · cases hk
     · simp only [hls, cond_true] at hk
       split at hk
       · rename_i m' wv s2 htk2
         obtain ⟨g2, cs2, j1, j2, j3, j4, j5, j6⟩ := take_rep f2 hy1 htk2 [.snd]
         split at hk
         · rename_i ys hc2
           have := castTo_some hc2
           subst this
           cases hb : s2.free (d, 0) && (m' == .own m || (m == .shr && m' == .shr))
           · simp [hb] at hk
           · simp only [hb, cond_true] at hk
             simp only [Bool.and_eq_true, Bool.or_eq_true, beq_iff_eq] at hb
             obtain ⟨hf, hmm⟩ := hb
             obtain ⟨hg, hk⟩ := guardB_some hk
             simp only [decide_eq_true_eq] at hg
             have f3' : ORep g2 w none none (.list ie.ty) (.own m) [.fst] xs [c] := by
              refine ORep.move j4 _ _ _ _ _ _ ⟨fun z => j5.hdr _ (fun z' e => by simp at e), fun b z e => ⟨rfl, j5.own b _ (fun z' e => by simp at e) e⟩, fun _ => Iff.rfl⟩ f3
             have hcs2 : ∃ c2, cs2 = [c2] := by have := j3.len; exact List.length_eq_one_iff.1 this
             obtain ⟨c2, rfl⟩ := hcs2
             have j1 : a.eval y = c2 := j1
             have row : ∃ ad cap news, c2 = .slice ad ys.length cap ∧ news.length = ys.length * ie.ty.size ∧ (∀ b, ad = some b → cellsAt w b news) ∧ (ad = none → ys = []) ∧ (∀ v ∈ news, v.oneCell' = true) ∧
              ∀ k (hk : k < ys.length), ∃ ds, ORep g2 w none none ie.ty m [.snd, .idx k] ys[k] ds ∧ ds.length = ie.ty.size ∧ ∀ j (hj : j < ds.length), news[k * ie.ty.size + j]? = some ds[j] := by
              rcases hmm with rfl | ⟨rfl, rfl⟩
              · rcases j3 with ⟨z, _⟩ | ⟨_, z, z2⟩
                · cases z
                · injection z with z _
                  rcases z2 with ⟨q1, q2⟩ | ⟨ad, cap, c', el, q1, q2, q3, q4, q5, q6, q7, q8⟩
                  · have hys : ys = [] := List.eq_nil_of_length_eq_zero q2
                    subst hys
                    exact ⟨none, 0, [], by rw [z, q1]; rfl, by simp, fun _ e => (by cases e), fun _ => rfl, by simp, fun k hk => by simp at hk⟩
                  · obtain ⟨news, n1, n2, n3⟩ := flat q2 (w := w) (E := fun k ds => ∃ hk : k < ys.length, ORep g2 w none none ie.ty m [.snd, .idx k] ys[k] ds) ys.length (fun k hk => by
                     obtain ⟨ds, d1, hk', d2⟩ := q8 k hk
                     exact ⟨ds, d1, ⟨hk', d2⟩, d2.len⟩)
                    refine ⟨some ad, cap, news, by rw [z, q1], n1, (fun b e => by injection e with e; subst e; exact n2), (fun e => by cases e), ones hpos n1 (fun k hk => ?_), fun k hk => ?_⟩
                    · obtain ⟨ds, ⟨hk', d1⟩, d2, d3⟩ := n3 k hk
                      exact ⟨ds, d1.one (by simp), d2, d3⟩
                    · obtain ⟨ds, ⟨hk', d1⟩, d2, d3⟩ := n3 k hk
                      exact ⟨ds, d1, d2, d3⟩
              · obtain ⟨ad, cap, news, n1, n2, n3, n4, n5, n6⟩ := (Row.of_srep hpos (ORep.shr.1 j3)).row
                exact ⟨ad, cap, news, n1, n2, n3, n4, n5, fun k hk => by
                 obtain ⟨ds, d1, d2, d3⟩ := n6 k hk
                 exact ⟨ds, ORep.shr.2 d1, d2, d3⟩⟩
             obtain ⟨ad, cap, news, n1, n2, n3, n4, n5, n6⟩ := row
             obtain ⟨w2, g3, mv, k1, k2⟩ := append_core (ty := ty) ht j2 hd hf hi he f3' n2 n3 n4 n5 n6 hg
             exact ⟨w2, _, g3, mv, by rw [f1, j1, n1]; exact k1, k2, hk⟩
         · cases hk
       · cases hk
   · cases hk
 · cases hk
end
end Go.Ve
namespace Go.Ve
open Go Go.RowKit
section
variable {P : Program} {g0 : Gh} {w0 : Fra} {N : Nat} {s : St} {g : Gh} {a : Act} {w : World} {α : Type} {r : α}
theorem run_copy_at {T ty E : TypeId} {ti : TypeInfo} (hu : P.underlying T = some (.slice E)) (i1 : P.info? E = some ti) {ax : Addr} (hax : ax.spot = none) {c : Array Value} {el : TypeId} (hc : w.heap[ax.block]? = some (.cells c el (0, 0))) {dLen dCap sLen sCap n : Nat} {ad : Option Addr} {news : List Value}
  (hn : n = Nat.min sLen dLen) (hl : news.length = n * ti.size) (hnc : ∀ b, ad = some b → ∀ j v, news[j]? = some v → w.cell? (b.add j) = some v) (hnn : ad = none → n = 0) (h1 : ∀ u ∈ news, u.oneCell' = true) (hfit : ax.off + news.length ≤ c.size) :
  (Builtin.copy_ #[T, T] ty #[.slice (some ax) dLen dCap, .slice ad sLen sCap]).run P w = .ok (goInt n) (w.setRow ax.block (c.toList.take ax.off ++ news ++ c.toList.drop (ax.off + news.length)).toArray) := by
 have hst := run_storeCells_at P ax.block ax.off el news 0 c w hc (by simpa using hfit) h1
 simp only [Nat.add_zero] at hst
 have hax' : (⟨ax.block, ax.off, none⟩ : Addr) = ax := by cases ax; simp at hax; subst hax; rfl
 rw [hax'] at hst
 cases ad with
 | none =>
  have hm := hnn rfl
  subst hm
  have hnews : news = [] := List.eq_nil_of_length_eq_zero (by simpa using hl)
  subst hnews
  have hst' : (storeCells ax []).run P w = .ok () w := rfl
  rw [hst'] at hst
  injection hst with _ hst
  rw [← hst]
  simp [Builtin.copy_, run_underlying hu, Go.sizeOf, typeInfo, i1, Builtin.lenOf, ← hn, run_firstCells_none, hst']
 | some b =>
  have hf := run_firstCells_some (P := P) w ti.size n b sLen sCap news hl (hnc b rfl)
  have hf' : (Builtin.firstCells ti.size n (.slice (some b) sLen sCap)).run P w = .ok news.toArray w := hf
  simp [Builtin.copy_, run_underlying hu, Go.sizeOf, typeInfo, i1, Builtin.lenOf, ← hn, hf', hst]
theorem run_copy_zero {T ty E : TypeId} {ti : TypeInfo} (hu : P.underlying T = some (.slice E)) (i1 : P.info? E = some ti) {d ad : Option Addr} {dLen dCap sLen sCap : Nat} (hn : Nat.min sLen dLen = 0) :
  (Builtin.copy_ #[T, T] ty #[.slice d dLen dCap, .slice ad sLen sCap]).run P w = .ok (goInt 0) w := by
 have hl : ∀ (x : Addr), (Builtin.firstCells ti.size 0 (.slice (some x) sLen sCap)).run P w = .ok #[] w := fun x => run_firstCells_some (P := P) w ti.size 0 x sLen sCap [] (by simp) (by simp)
 cases d <;> cases ad <;> simp [Builtin.copy_, run_underlying hu, Builtin.lenOf, Go.sizeOf, typeInfo, i1, hn, storeCells, hl, run_firstCells_none]
theorem copyAt_sound {tab : Tab} (ht : TabOk P tab) (h : R g0 w0 N s g a w) {T ty : TypeId} {i : TI} (hi : tab.ti T = some i) {e : Ty} (he : i.ty = .list e) (hpl : e.lists = false) {id : Id} {lo : Nat} {hi' : Option Nat} {y : TV} {K : Int → St → Option α} (hk : copyAt e s id lo hi' y K = some r) {mx my : Value} (hy : TRep g w s.sig y my)
  (hx : ∀ n, s.obj id ≠ none → (∃ m xs, s.obj id = some (.vec m e xs) ∧ n = List.length xs) → (∃ dCap, mx = .slice none 0 dCap ∧ hi'.getD n - lo = 0) ∨ ∃ ax cap b dCap, g.hdr (some id) [] = .slice (some ax) n cap ∧ (lo < cap → b = ax.add (lo * e.size)) ∧ mx = .slice (some b) (hi'.getD n - lo) dCap) :
  ∃ n w' s', K n s' = some r ∧ R g0 w0 N s' g a w' ∧ (Builtin.copy_ #[T, T] ty #[mx, my]).run P w = .ok (.int .i64 n) w' := by
 have hok := (ht T i hi).kind
 simp only [he] at hok
 obtain ⟨E, ie, ti, hu, hE', rfl, i1, i2, i3⟩ := hok
 obtain ⟨tE, j1, j2, j3⟩ := (ht E ie hE').info
 have hpos := (ht E ie hE').pos
 rw [i1] at j1
 injection j1 with j1
 subst j1
 unfold copyAt at hk
 split at hk
 · cases hk
 rename_i hhole
 split at hk <;> try (cases hk; done)
 rename_i m t xs hobj
 split at hk <;> try (cases hk; done)
 rename_i zs hc
 have e1 := castTo_some hc
 injection e1 with e1 e2
 injection e1 with e1
 subst e1
 have e2 := eq_of_heq e2
 subst e2
 split at hk <;> try (cases hk; done)
 rename_i wv hlook
 split at hk <;> try (cases hk; done)
 rename_i ys hcy
 have e3 := castTo_some hcy
 subst e3
 obtain ⟨hg, hk⟩ := guardB_some hk
 simp only [Bool.and_eq_true, decide_eq_true_eq] at hg
 obtain ⟨hg1, hg2⟩ := hg
 have hrow := look_row h hy hpos hpl hlook
 obtain ⟨⟨ad, cap, news, r1, r2, r3, r4, r5, r6⟩⟩ := hrow
 generalize hH : hi'.getD (List.length xs) = H at hk hg1 hg2
 have hob := h.objs id _ hobj
 have hsl : s.hl = none := by simp [St.hl, hhole]
 have hmin : Nat.min ys.length (H - lo) = min ys.length (H - lo) := rfl
 by_cases hz : min ys.length (H - lo) = 0
 · refine ⟨_, w, _, hk, ?_, ?_⟩
   · rw [hz]
     simp only [List.take_zero, List.append_nil, Nat.add_zero, List.take_append_drop]
     have : s.put id (.vec m ie.ty xs) = s := by
      have : updI s.obj id (some (.vec m ie.ty xs)) = s.obj := by
       funext j
       simp only [updI]
       by_cases hj : j = id
       · subst hj; rw [show (Nat.beq j.1 j.1 && Nat.beq j.2 j.2) = true by simp]; simp [hobj]
       · have : (Nat.beq j.1 id.1 && Nat.beq j.2 id.2) = false := by
          rw [Bool.eq_false_iff]
          intro e
          exact hj (sameId_eq.1 e)
         rw [this]; rfl
      simp only [St.put, this]
     rw [this]
     exact h
   · rcases hx (List.length xs) (by simp [hobj]) ⟨m, xs, hobj, rfl⟩ with ⟨dCap, q1, q2⟩ | ⟨ax, cp, b, dCap, q1, q2, q3⟩
     · rw [q1, r1, hz]
       exact run_copy_zero hu i1 (by simp)
     · rw [q3, r1, hz, hH]
       exact run_copy_zero hu i1 hz
 · rcases hx (List.length xs) (by simp [hobj]) ⟨m, xs, hobj, rfl⟩ with ⟨dCap, q1, q2⟩ | ⟨ax, cp, b, dCap, q1, q2, q3⟩
   · rw [hH] at q2; exfalso; omega
   · rcases hob with ⟨z1, z2⟩ | ⟨ax', cap', c, el, h4, h5, h6, h7, h8, h9, h10, h11⟩
     · rw [z1] at q1; cases q1
     · rw [q1] at h4
       injection h4 with h4 h4' h4''
       injection h4 with h4
       subst h4 h4''
       clear h4'
       have hb : b = ax.add (lo * ie.ty.size) := q2 (by omega)
       have hbs : b.spot = none := by rw [hb]; exact add_spot h5 _
       have hbb : b.block = ax.block := by rw [hb, add_block]
       have hbo : b.off = ax.off + lo * ie.ty.size := by rw [hb, add_off]
       let n := min ys.length (H - lo)
       have hn1 : n ≤ ys.length := Nat.min_le_left _ _
       have hn2 : n ≤ H - lo := Nat.min_le_right _ _
       let news' := news.take (n * ie.ty.size)
       have hnl : news'.length = n * ie.ty.size := by
        simp only [news', List.length_take, r2]
        exact Nat.min_eq_left (Nat.mul_le_mul_right _ hn1)
       have hfit : b.off + news'.length ≤ c.size := by
        rw [hnl, hbo]
        have : lo * ie.ty.size + n * ie.ty.size ≤ cp * ie.ty.size := by rw [← Nat.add_mul]; exact Nat.mul_le_mul_right _ (by omega)
        omega
       have hcb : w.heap[b.block]? = some (.cells c el (0, 0)) := by rw [hbb]; exact h7
       let w2 := w.setRow b.block (c.toList.take b.off ++ news' ++ c.toList.drop (b.off + news'.length)).toArray
       have hget : ∀ j v, news'[j]? = some v → news[j]? = some v ∧ j < n * ie.ty.size := fun j v hv => by
        have hj : j < news'.length := (List.getElem?_eq_some_iff.1 hv).1
        rw [hnl] at hj
        simp only [news', List.getElem?_take, if_pos hj] at hv
        exact ⟨hv, hj⟩
       have hrun := run_copy_at (P := P) (w := w) (ty := ty) (dLen := H - lo) (dCap := dCap) (sLen := ys.length) (sCap := cap) (n := n) (ad := ad) (news := news') hu i1 hbs hcb rfl (by rw [hnl, j2])
        (fun b' eb j v hv => by
         obtain ⟨hv, hj⟩ := hget j v hv
         obtain ⟨hlt, e'⟩ := List.getElem?_eq_some_iff.1 hv
         rw [r3 b' eb j hlt, e'])
        (fun en => by have := r4 en; subst this; simp [n]) (fun u hu => r5 u (List.mem_of_mem_take hu)) hfit
       obtain ⟨k1, k2⟩ := setRow_cells hcb hfit
       have hle : Le g w g w2 := setRow_le (by rw [hbb, h6]; simp)
       refine ⟨_, w2, _, hk, ?_, by rw [q3, r1, hH]; exact hrun⟩
       have hlen : (List.take lo xs ++ List.take n ys ++ List.drop (lo + n) xs).length = xs.length := by
        simp only [List.length_append, List.length_take, List.length_drop]
        omega
       refine h.write hobj (o' := .vec m ie.ty (List.take lo xs ++ List.take n ys ++ List.drop (lo + n) xs)) rfl hle (fun j hj => ⟨fun _ => rfl, fun _ _ => rfl, fun b' q hb' => ⟨setRow_other w _ _ _ (fun ee => by rw [ee, hbb, h6] at hb'; injection hb' with hb'; injection hb' with hb' _; injection hb' with hb'; exact hj hb'.symm), hb'⟩⟩) rfl
        (fun b' o' hb' => by simp only [w2, World.setRow, Array.size_modify]; exact h.lives b' o' hb') (fun _ => .inl rfl) (.inl fun _ => rfl) (fun j => by
         simp only [St.put, updI]
         by_cases hj : j = id
         · subst hj; rw [show (Nat.beq j.1 j.1 && Nat.beq j.2 j.2) = true by simp, if_pos rfl]; rfl
         · have : (Nat.beq j.1 id.1 && Nat.beq j.2 id.2) = false := by
            rw [Bool.eq_false_iff]
            intro e
            exact hj (sameId_eq.1 e)
           rw [this, if_neg hj]; rfl) (fun j _ _ => Iff.rfl) ?_
       have hh0 : (s.put id (.vec m ie.ty (List.take lo xs ++ List.take n ys ++ List.drop (lo + n) xs))).hl = none := hsl
       refine .inr ⟨ax, cp, _, el, by rw [q1, hlen], h5, h6, by rw [← hbb]; exact setRow_heap w _ c _ el _ hcb, by rw [hlen]; exact h8, h9, by simp; omega, fun k hk' => ?_⟩
       rw [hlen] at hk'
       obtain ⟨ds, d1, hk'', d2⟩ := h11 k hk'
       have d3 := ORep.plain _ _ _ _ _ hpl d2
       have dl := d3.len
       by_cases hin : lo ≤ k ∧ k < lo + n
       · obtain ⟨ds', f1, f2, f3⟩ := r6 (k - lo) (by omega)
         refine ⟨ds', fun j hj => ?_, by rw [hlen]; exact hk', ?_⟩
         · have hlt : (k - lo) * ie.ty.size + j < n * ie.ty.size := by
            have := Nat.mul_le_mul_right ie.ty.size (show k - lo + 1 ≤ n by omega)
            rw [Nat.add_mul] at this
            omega
           have hv : news'[(k - lo) * ie.ty.size + j]? = some ds'[j] := by
            simp only [news', List.getElem?_take, if_pos hlt]
            exact f3 j hj
           obtain ⟨hlt', e3⟩ := List.getElem?_eq_some_iff.1 hv
           have := k1 _ hlt'
           rw [e3] at this
           have hsz : k * ie.ty.size = lo * ie.ty.size + (k - lo) * ie.ty.size := by rw [← Nat.add_mul]; congr 1; omega
           have hadr : (ax.add (k * ie.ty.size)).add j = b.add ((k - lo) * ie.ty.size + j) := by
            rw [add_add h5, hb, add_add h5]
            congr 1
            omega
           rw [hadr]
           have hbe : (⟨b.block, b.off, none⟩ : Addr) = b := by cases b; simp at hbs; subst hbs; rfl
           rw [hbe] at this
           exact this
         · have e : (List.take lo xs ++ List.take n ys ++ List.drop (lo + n) xs)[k]'(by rw [hlen]; exact hk') = ys[k - lo]'(by omega) := by
            simp only [List.getElem_append, List.length_append, List.length_take]
            rw [dif_pos (by omega), dif_neg (by omega)]
            simp only [List.getElem_take]
            congr 1
            omega
           rw [e]
           exact ORep.of_plain _ _ _ _ _ hpl (SRep.bare' _ _ _ hpl f1)
       · refine ⟨ds, fun j hj => ?_, by rw [hlen]; exact hk', ?_⟩
         · have := d1 j hj
           rw [add_add h5, add_eq h5] at this ⊢
           rw [← this]
           have hbx : ax.block = b.block := hbb.symm
           rw [hbx]
           refine k2 _ ?_
           by_cases hlt : k < lo
           · left
             have := Nat.mul_le_mul_right ie.ty.size (show k + 1 ≤ lo from hlt)
             rw [Nat.add_mul] at this
             omega
           · right
             have := Nat.mul_le_mul_right ie.ty.size (show lo + n ≤ k by omega)
             rw [Nat.add_mul] at this
             rw [hnl, hbo]
             omega
         · have e : (List.take lo xs ++ List.take n ys ++ List.drop (lo + n) xs)[k]'(by rw [hlen]; exact hk') = xs[k]'hk' := by
            simp only [List.getElem_append, List.length_append, List.length_take]
            by_cases hlt : k < lo
            · rw [dif_pos (by omega), dif_pos (by omega)]
              simp
            · rw [dif_neg (by omega)]
              simp only [List.getElem_drop]
              congr 1
              omega
           rw [e]
           exact ORep.of_plain _ _ _ _ _ hpl (SRep.bare' _ _ _ hpl d3)
theorem copyV_sound {tab : Tab} (ht : TabOk P tab) (h : R g0 w0 N s g a w) {T ty : TypeId} {i : TI} (hi : tab.ti T = some i) {e : Ty} (he : i.ty = .list e) {x y : TV} {K : Int → St → Option α} (hk : copyV e s x y K = some r) {mx my : Value} (hx : TRep g w s.sig x mx) (hy : TRep g w s.sig y my) :
  ∃ n w' s', K n s' = some r ∧ R g0 w0 N s' g a w' ∧ (Builtin.copy_ #[T, T] ty #[mx, my]).run P w = .ok (.int .i64 n) w' := by
 unfold copyV at hk
 cases hpl : e.lists
 · simp only [hpl, cond_false] at hk
   split at hk
   · rename_i id
     refine copyAt_sound ht h hi he hpl hk hy fun n _ ⟨m, xs, hobj, hn⟩ => ?_
     obtain ⟨e1, _⟩ := hx.ref
     rcases h.objs id _ hobj with ⟨z1, z2⟩ | ⟨ax, cap, c, el, h4, _⟩
     · exact .inl ⟨0, by rw [e1]; exact z1, by rw [hn, z2]; rfl⟩
     · refine .inr ⟨ax, cap, ax, cap, by rw [hn]; exact h4, fun _ => by simp [Addr.add], ?_⟩
       rw [e1, h4, hn]
       rfl
   · rename_i id lo hi'
     refine copyAt_sound ht h hi he hpl hk hy fun n _ ⟨m, xs, hobj, hn⟩ => ?_
     obtain ⟨t, h1, h2, h3⟩ := hx.sub
     have hsg : s.sig id = some (.vec e) := by simp [St.sig, hobj, Ob.sig]
     have hte : t = e := by
      have := (h1 _ hsg).1
      simpa [Sig.ty, tyAt] using this.symm
     subst hte
     rcases h3 with ⟨q1, q2, q3⟩ | ⟨ad, len, cap, b, q1, q2, q3, q4, q5, q6, q7, q8, q⟩
     · exact .inl ⟨0, q3, by simp [q2]⟩
     · rcases h.objs id _ hobj with ⟨z1, z2⟩ | ⟨ax, cap', c, el, h4, _⟩
       · rw [z1] at q1; cases q1
       · rw [h4] at q1
         injection q1 with q1 q1' q1''
         injection q1 with q1
         subst q1 q1' q1''
         exact .inr ⟨ax, cap', b, cap' - lo, by rw [hn]; exact h4, q5, q⟩
   · cases hk
 · simp [hpl] at hk
end
end Go.Ve
namespace Go.Ve
open Go Go.RowKit
section
variable {P : Program} {g0 : Gh} {w0 : Fra} {N : Nat} {s : St} {g : Gh} {a : Act} {w : World} {α : Type} {r : α} {Q : Exit → Act → World → Prop}
theorem comp_fit : ∀ (n j : Nat) (t u : Ty), compTy n j t = some u → compOff n j t + u.size ≤ t.size
 | 0, _, _, _, h => by simp [compTy] at h
 | 1, 0, t, u, h => by simp only [compTy, Option.some.injEq] at h; subst h; simp [compOff]
 | 1, j + 1, t, u, h => by cases t <;> simp [compTy] at h
 | n + 2, 0, t, u, h => by
  cases t <;> simp only [compTy, Option.some.injEq] at h <;> try (cases h; done)
  subst h; simp [compOff, Ty.size]
 | n + 2, j + 1, t, u, h => by
  cases t <;> simp only [compTy] at h <;> try (cases h; done)
  have := comp_fit (n + 1) j _ u h
  simp only [compOff, Ty.size]; omega
theorem assign_sound (h : R g0 w0 N s g a w) {d : Nat} (hd : d < N) {v : TV} {mv : Value} (hv : TRep g w s.sig v mv) : ∃ g', R g0 w0 N (s.assign d v) g' (a.put (some d) mv) w := by
 have plain : ∃ g', R g0 w0 N (s.set d v) g' (a.put (some d) mv) w := ⟨g, h.set hd hv⟩
 unfold St.assign
 split
 · rename_i id
   split
   · rename_i m t xs ho
     cases hc : (!sameId id (d, 0) && (s.free id && s.free (d, 0)))
     · exact plain
     · simp only [cond_true]
       simp only [Bool.and_eq_true] at hc
       obtain ⟨_, h1, h2⟩ := hc
       obtain ⟨e1, _⟩ := hv.ref
       obtain ⟨k1, k2, k3, k4⟩ := take_vec h ho h1 []
       obtain ⟨j1, j2, j3⟩ := place_vec k1 (id := (d, 0)) hd h2 k2
       refine ⟨_, j1.set hd ?_⟩
       simp only [List.cons.injEq, and_true] at j2
       rw [e1, j2]
       exact ref_rep new_sig
   · exact plain
 · rename_i id lo hi
   split
   · rename_i m t xs ho
     cases hc : (s.free id && s.free (d, 0))
     · exact plain
     · simp only [cond_true]
       simp only [Bool.and_eq_true] at hc
       obtain ⟨h1, h2⟩ := hc
       obtain ⟨t', q1, q2, q3⟩ := hv.sub
       have hte := (q1 (.vec t) (by simp [St.sig, ho]; rfl)).1
       simp only [Sig.ty, tyAt, Option.some.injEq, Ty.list.injEq] at hte
       subst hte
       obtain ⟨k1, k2, k3, k4⟩ := take_sub h ho h1 q2 q3 []
       obtain ⟨j1, j2, j3⟩ := place_vec k1 (id := (d, 0)) hd h2 k2
       refine ⟨_, j1.set hd ?_⟩
       simp only [List.cons.injEq, and_true] at j2
       have k : TRep ((g.cut (some id) lo none [] mv).mv none [] (some (d, 0)) []) w (((s.purge id).drop id).new (d, 0) (Ob.vec m t (List.drop lo (List.take hi xs)))).sig (.ref (d, 0) []) (((g.cut (some id) lo none [] mv).mv none [] (some (d, 0)) []).hdr (some (d, 0)) []) := ref_rep new_sig
       rw [← j2] at k
       exact k
   · exact plain
 · exact plain
theorem extract_sound {sg : Id → Option Sig} {l : List TV} {mv : Value} {j : Nat} {v : TV} (h : TRep g w sg (.tup l) mv) (hj : l[j]? = some v) (hn : ∀ l', v ≠ .tup l') :
  ∃ mv', (∀ w, (Instr.extract mv j).run P w = .ok mv' w) ∧ TRep g w sg v mv' := by
 obtain ⟨vs, rfl, h2⟩ := h
 obtain ⟨b, hb, k⟩ := h2.get hj
 refine ⟨b, ?_, ?_⟩
 · simp [Instr.extract, hb]
 · cases v with
   | tup l' => exact absurd rfl (hn l')
   | _ => exact k
theorem conv_sound {tab : Tab} (ht : TabOk P tab) {sg : Id → Option Sig} {T S : TypeId} {i i' : TI} (hi : tab.ti T = some i) (hi' : tab.ti S = some i') {v : Val} {mv : Value} {K : Val → Option α} (h : convV i v K = some r) (hv : TRep g w sg (.val v) mv) :
  ∃ v' mv', K v' = some r ∧ (∀ w, (convert S T mv).run P w = .ok mv' w) ∧ TRep g w sg (.val v') mv' := by
 have hk := (ht T i hi).kind
 have hs : ∃ td, P.underlying S = some td := by
  have hk' := (ht S i' hi').kind
  split at hk'
  · exact ⟨_, hk'⟩
  · exact ⟨_, hk'⟩
  · exact ⟨_, hk'⟩
  · obtain ⟨_, _, _, k, _⟩ := hk'; exact ⟨_, k⟩
  · rcases hk' with ⟨_, _, _, _, k, _⟩ | ⟨_, _, k, _⟩ <;> exact ⟨_, k⟩
  · exact hk'.elim
 obtain ⟨td, hs⟩ := hs
 unfold convV at h
 split at h
 · rename_i k j n e1
   rw [e1] at hk
   rw [hv.int]
   exact ⟨_, _, h, by simp [convert, run_underlying hk, run_underlying hs, Conv.intToInt], TRep.mkInt _ _⟩
 · rename_i b e1
   rw [e1] at hk
   rw [hv.str]
   exact ⟨_, _, h, by simp [convert, run_underlying hk, run_underlying hs], TRep.mkStr _⟩
 · cases h
theorem index_sound {tab : Tab} (ht : TabOk P tab) {sg : Id → Option Sig} {T : TypeId} {i : TI} (hi : tab.ti T = some i) {v : Val} {mv : Value} {n : Int} {k : IntKind} {K : Val → Option α} (h : indexV i n v K = some r) (hv : TRep g w sg (.val v) mv) :
  ∃ v' mv', K v' = some r ∧ (∀ w, (Instr.index T mv (.int k n)).run P w = .ok mv' w) ∧ TRep g w sg (.val v') mv' := by
 have hk := (ht T i hi).kind
 unfold indexV at h
 split at h
 · rename_i e1
   rw [e1] at hk
   split at h
   · rename_i b hc
     have := castTo_some hc
     subst this
     obtain ⟨hg, h⟩ := guardB_some h
     simp only [Bool.and_eq_true, decide_eq_true_eq] at hg
     obtain ⟨h1, h2⟩ := hg
     rw [hv.str]
     have h3 : n.toNat < b.size := by omega
     have h4 : b[n.toNat]? = some b[n.toNat] := by simp [h3]
     refine ⟨_, _, h, ?_, TRep.mkInt _ _⟩
     have : (List.getD b.data.toList n.toNat 0) = b[n.toNat] := by
      simp only [List.getD_eq_getElem?_getD]
      have : n.toNat < b.data.toList.length := by simpa using h3
      rw [List.getElem?_eq_getElem this]
      rfl
     rw [this]
     simp [Instr.index, asIntOf, run_underlying hk, h1, h4]
   · cases h
 · rename_i e f e1
   cases hA : i.isArr
   · simp [hA] at h
   · simp only [hA, cond_true] at h
     rw [e1] at hk
     split at h
     · rename_i y hc
       have := castTo_some hc
       subst this
       obtain ⟨hg, h5⟩ := guardB_some h
       clear h
       simp only [Bool.and_eq_true, decide_eq_true_eq] at hg
       obtain ⟨h1, h2⟩ := hg
       split at h5
       · rename_i u hu
         rcases hk with ⟨_, _, E, ie, hk, hE, hia, rfl⟩ | ⟨hn, _⟩
         · obtain ⟨cs, s1, rfl⟩ := hv.val
           obtain ⟨c, d, rfl, sa, sb⟩ := s1
           have hlt : n < ((2 : Nat) : Int) := by omega
           simp only [wrap]
           have key : ∀ ds (off : Nat), off = n.toNat * ie.ty.size → (∃ c' d', c ++ d = c' ++ ds ++ d' ∧ c'.length = off) → SRep g w u.t u.x ds → u.t = ie.ty →
            ∃ v' mv', K v' = some r ∧ (∀ w, (Instr.index T (.agg (c ++ d).toArray) (.int k n)).run P w = .ok mv' w) ∧ TRep g w sg (.val v') mv' := by
            rintro ds off ho ⟨c', d', ec, el⟩ hs ht'
            refine ⟨u, _, h5, ?_, ⟨ds, hs, rfl⟩⟩
            intro w
            have hp := part_run (w := w) ht hE (c := c') (ds := ds) (d := d') (by rw [hs.len, ht']) el.symm
            rw [← ec] at hp
            simp only [Instr.index, asIntOf, Sem.run_bind, Sem.run_pure, Result.andThen_ok, run_underlying hk, h1, hlt, and_self, if_true, sizeOf_ok ht hE, ← ho, hp, ht']
           have hn : n.toNat = 0 ∨ n.toNat = 1 := by omega
           unfold arrGet at hu
           simp only at hu
           split at hu
           · rename_i hee
             cases hl : f.lists
             · simp only [hl, cond_false, Option.some.injEq] at hu
               subst hu
               rcases hn with hn | hn
               · rw [hn] at key
                 refine key c 0 (by simp) ⟨[], d, by simp, rfl⟩ ?_ ?_
                 · simpa using sa
                 · exact hia.symm
               · rw [hn] at key
                 refine key d ie.ty.size (by simp) ⟨c, [], by simp, by rw [sa.len, hia]⟩ ?_ ?_
                 · exact sb
                 · exact hia.symm
             · simp [hl] at hu
           · cases hu
         · rw [hn] at hA; cases hA
       · cases h5
     · cases h
 · cases h
theorem field_sound {tab : Tab} (ht : TabOk P tab) (hR : R g0 w0 N s g a w) {T : TypeId} {i : TI} (hi : tab.ti T = some i) {x : Operand} {j : Nat} (hA : i.isArr = false) (hp : i.ty.isProd = true) (hj : j < i.arity) (hf : s.fits i.ty (s.ev x) = true) :
  ∃ mv, (∀ w, (Instr.field T (a.eval x) j).run P w = .ok mv w) ∧ TRep g w s.sig (comp i.arity j (s.ev x)) mv := by
 obtain ⟨cs, h1, h2⟩ := (hR.ev x).fits hf
 obtain ⟨fs, f, fi, k1, k2, k3, k4, k5⟩ := struct_field ht hi hA hj hp
 have hAx : i.ty.isProd = true → (∃ v, s.ev x = .val v) ∨ ∃ y z, s.ev x = .pr y z := by
  intro _
  cases e : s.ev x <;> rw [e] at hf h1
  case val v => exact .inl ⟨_, rfl⟩
  case pr => exact .inr ⟨_, _, rfl⟩
  case ref id p => cases e' : i.ty <;> rw [e'] at h1 hp <;> first | (simp [Ty.isProd] at hp; done) | exact h1.elim
  case sub id p l u => cases e' : i.ty <;> rw [e'] at h1 hp <;> first | (simp [Ty.isProd] at hp; done) | exact h1.elim
  all_goals (cases e' : i.ty <;> rw [e'] at hf hp <;> first | (simp [Ty.isProd] at hp; done) | (simp [St.fits] at hf; done))
 have hlen := h1.len
 have hw : ∀ cs : List Value, wrap i.ty cs = .agg cs.toArray := by
  intro cs
  cases e' : i.ty <;> rw [e'] at hp <;> first | rfl | simp [Ty.isProd] at hp
 have hrun : ∀ c ds d : List Value, cs = c ++ ds ++ d → c.length = compOff i.arity j i.ty → ds.length = fi.ty.size → ∀ w, (Instr.field T (a.eval x) j).run P w = .ok (wrap fi.ty ds) w := by
  intro c ds d e1 e2 e3 w
  have hq := part_run (w := w) ht k3 (c := c) (ds := ds) (d := d) e3 (off := f.offset) (by rw [k5, e2])
  rw [h2, hw]
  subst e1
  simp [Instr.field, run_underlying k1, k2, asAgg, hq, -List.append_assoc]
 rcases comp_sound i.arity j (s.ev x) i.ty fi.ty cs h1 hAx k4 hj with ⟨c, ds, d, e1, e2, e3⟩ | hdead
 · exact ⟨_, hrun c ds d e1 e2 e3.len, e3.rep⟩
 · rw [hdead]
   have hle : compOff i.arity j i.ty + fi.ty.size ≤ i.ty.size := comp_fit _ _ _ _ k4
   refine ⟨_, hrun (cs.take (compOff i.arity j i.ty)) ((cs.drop (compOff i.arity j i.ty)).take fi.ty.size) ((cs.drop (compOff i.arity j i.ty)).drop fi.ty.size) ?_ ?_ ?_, TRep.dead⟩
   · rw [List.append_assoc, List.take_append_drop, List.take_append_drop]
   · simp; omega
   · simp; omega
end
end Go.Ve
namespace Go.Ve
open Go Go.RowKit
section
variable {P : Program} {g0 : Gh} {w0 : Fra} {N : Nat} {s : St} {g : Gh} {a : Act} {w : World} {α : Type} {r : α} {Q : Exit → Act → World → Prop}
theorem TC.dead {sg : Id → Option Sig} {t : Ty} {cs : List Value} (h : cs.length = t.size) : TC g w sg .dead t cs := by cases t <;> exact h
theorem setPart_sound {sg : Id → Option Sig} : ∀ (n j : Nat) (A B : TV) (t u : Ty) (cs ds : List Value), TC g w sg A t cs → TC g w sg B u ds → compTy n j t = some u →
  TC g w sg (setPart n j A B) t (cs.take (compOff n j t) ++ ds ++ cs.drop (compOff n j t + u.size))
 | 0, _, _, _, _, _, _, _, _, _, h => by simp [compTy] at h
 | 1, j + 1, _, _, t, _, _, _, _, _, h => by cases t <;> simp [compTy] at h
 | 1, 0, A, B, t, u, cs, ds, hA, hB, h => by
  simp only [compTy, Option.some.injEq] at h
  subst h
  have e : setPart 1 0 A B = B := by cases A <;> rfl
  rw [e]
  have := hA.len
  simp only [compOff, List.take_zero, List.nil_append, Nat.zero_add]
  rw [List.drop_of_length_le (by omega), List.append_nil]
  exact hB
 | n + 2, 0, A, B, t, u, cs, ds, hA, hB, h => by
  have hl := hA.len
  have hb := hB.len
  have hfit := comp_fit _ _ _ _ h
  cases t <;> simp only [compTy, Option.some.injEq] at h <;> try (cases h; done)
  subst h
  rename_i ta tb
  have dead : TC g w sg .dead (ta.prod tb) (cs.take (compOff (n + 2) 0 (ta.prod tb)) ++ ds ++ cs.drop (compOff (n + 2) 0 (ta.prod tb) + ta.size)) := TC.dead (by
   simp only [compOff, List.take_zero, List.nil_append, Nat.zero_add, List.length_append, List.length_drop, hb, hl, Ty.size]; omega)
  cases A with
  | pr x y =>
   obtain ⟨c, d, rfl, l1, l2, h1, h2⟩ := hA
   simp only [compOff, List.take_zero, List.nil_append, Nat.zero_add, setPart]
   rw [List.drop_left' l1]
   exact TC.mkpr hB h2 hb l2
  | val v =>
   obtain ⟨vt, vx⟩ := v
   obtain ⟨e, h1⟩ := hA
   simp only at e
   subst e
   obtain ⟨c, d, rfl, h1, h2⟩ := h1
   simp only [compOff, List.take_zero, List.nil_append, Nat.zero_add, setPart]
   rw [List.drop_left' h1.len]
   exact TC.mkpr hB ⟨rfl, h2⟩ hb h2.len
  | _ => exact dead
 | n + 2, j + 1, A, B, t, u, cs, ds, hA, hB, h => by
  have hl := hA.len
  have hb := hB.len
  have hfit := comp_fit _ _ _ _ h
  cases t <;> simp only [compTy] at h <;> try (cases h; done)
  rename_i ta tb
  have dead : TC g w sg .dead (ta.prod tb) (cs.take (compOff (n + 2) (j + 1) (ta.prod tb)) ++ ds ++ cs.drop (compOff (n + 2) (j + 1) (ta.prod tb) + u.size)) := TC.dead (by
   simp only [List.length_append, List.length_drop, List.length_take, hb, hl]; omega)
  have cut : ∀ c d : List Value, c.length = ta.size → (c ++ d).take (compOff (n + 2) (j + 1) (ta.prod tb)) ++ ds ++ (c ++ d).drop (compOff (n + 2) (j + 1) (ta.prod tb) + u.size) = c ++ (d.take (compOff (n + 1) j tb) ++ ds ++ d.drop (compOff (n + 1) j tb + u.size)) := by
   intro c d l
   simp only [compOff]
   rw [List.take_append, List.drop_append, List.take_of_length_le (by omega), List.drop_of_length_le (by omega)]
   simp only [List.nil_append, List.append_assoc]
   congr 3
   · congr 1; omega
   · congr 2; omega
  cases A with
  | pr x y =>
   obtain ⟨c, d, rfl, l1, l2, h1, h2⟩ := hA
   rw [cut c d l1]
   have k := setPart_sound (n + 1) j y B tb u d ds h2 hB h
   exact TC.mkpr h1 k l1 k.len
  | val v =>
   obtain ⟨vt, vx⟩ := v
   obtain ⟨e, h1⟩ := hA
   simp only at e
   subst e
   obtain ⟨c, d, rfl, h1, h2⟩ := h1
   rw [cut c d h1.len]
   have k := setPart_sound (n + 1) j (.val ⟨tb, vx.2⟩) B tb u d ds ⟨rfl, h2⟩ hB h
   exact TC.mkpr (A := .val ⟨ta, vx.1⟩) ⟨rfl, h1⟩ k h1.len k.len
  | _ => exact dead
theorem zeroTV_sound {sg : Id → Option Sig} : ∀ t : Ty, TC g w sg (zeroTV t) t (zeroCells t)
 | .int _ => ⟨rfl, rfl⟩
 | .bool => ⟨rfl, rfl⟩
 | .str => ⟨rfl, rfl⟩
 | .unit => ⟨rfl, rfl⟩
 | .list _ => rfl
 | .prod a b => TC.mkpr (zeroTV_sound a) (zeroTV_sound b) (zeroTV_sound (sg := sg) a).len (zeroTV_sound (sg := sg) b).len
theorem shown_one (h : R g0 w0 N s g a w) : ∀ (A : TV) (t : Ty) (cs : List Value), TC g w s.sig A t cs → s.fits t A = true → s.shown A = true → ∀ v ∈ cs, v.oneCell' = true
 | .val v, t, cs, ⟨h1, h2⟩, _, _ => h2.one
 | .nil, .list t, cs, hc, _, _ => by simp only [TC] at hc; subst hc; simp [Value.oneCell']
 | .ref id p, .list t, cs, ⟨h1, h2⟩, _, hs => by
  subst h1
  simp only [St.shown] at hs
  split at hs <;> try (cases hs; done)
  rename_i m v e
  have hv : v.t = .list t := by
   obtain ⟨sg, k1, k2⟩ := seen_sig e
   rw [(h2 sg k1).1] at k2
   injection k2 with k2
   exact k2.symm
  obtain ⟨vt, vx⟩ := v
  simp only at hv
  subst hv
  obtain ⟨E, hE, _⟩ := h.header e (fun sg hsg => (h2 sg hsg).2)
  rcases hE with ⟨e, _⟩ | ⟨_, _, _, _, e, _⟩ <;> rw [e] <;> simp [Value.oneCell']
 | .sub id p lo hi, .list t, cs, ⟨_, _, hc⟩, _, _ => by
  rcases hc with ⟨_, _, rfl⟩ | ⟨_, _, _, _, _, _, _, _, _, _, _, _, rfl⟩ <;> simp [Value.oneCell']
 | .pr x y, .prod ta tb, cs, ⟨c, d, e, _, _, h1, h2⟩, hf, hs => by
  simp only [St.fits, St.shown, Bool.and_eq_true] at hf hs
  subst e
  intro v hv
  rcases List.mem_append.1 hv with hv | hv
  · exact shown_one h x ta c h1 hf.1 hs.1 v hv
  · exact shown_one h y tb d h2 hf.2 hs.2 v hv
 | .dead, t, _, _, hf, _ => by cases t <;> simp [St.fits] at hf
theorem fill_one {off : Nat} {ds cs : List Value} {v : Value} (hv : v.cells = ds.toArray) (hf : off + ds.length ≤ cs.length) :
  v.cells.zipIdx.foldl (fun cs (c, j) => cs.setIfInBounds (off + j) c) cs.toArray = (cs.take off ++ ds ++ cs.drop (off + ds.length)).toArray := by
 obtain ⟨f1, f2⟩ := fold_list off ds 0 cs.toArray (by simpa using hf)
 have hfold : v.cells.zipIdx.foldl (fun cs (c, j) => cs.setIfInBounds (off + j) c) cs.toArray = (ds.zipIdx 0).foldl (fun cs (c, j) => cs.setIfInBounds (off + j) c) cs.toArray := by
  rw [hv, ← Array.foldl_toList, Array.toList_zipIdx]
 rw [hfold]
 apply Array.ext_getElem?
 intro q
 rw [f2]
 simp only [Nat.add_zero, List.getElem?_toArray]
 by_cases h1 : q < off
 · rw [if_neg (by omega), List.append_assoc, List.getElem?_append_left (by simp; omega), List.getElem?_take_of_lt h1]
 · by_cases h2 : q < off + ds.length
   · rw [if_pos ⟨by omega, h2⟩, List.append_assoc, List.getElem?_append_right (by simp; omega), List.getElem?_append_left (by simp; omega)]
     congr 1
     simp
     omega
   · rw [if_neg (by omega), List.getElem?_append_right (by simp; omega), List.getElem?_drop]
     congr 1
     simp
     omega
theorem fill_build (h : R g0 w0 N s g a w) {places : Nat → Option (Nat × Nat)} {n : Nat} {t : Ty} (hp : ∀ j u, compTy n j t = some u → places j = some (compOff n j t, u.size) ∧ 0 < u.size) :
  ∀ (l : List (Nat × Operand)) (A v : TV) (cs : List Value), buildParts n t s l A = some v → TC g w s.sig A t cs →
  ∃ cs', Instr.fill places cs.toArray (l.map fun x => (x.1, a.eval x.2)) = some cs'.toArray ∧ TC g w s.sig v t cs'
 | [], A, v, cs, hb, hA => by
  simp only [buildParts, Option.some.injEq] at hb
  subst hb
  exact ⟨cs, rfl, hA⟩
 | (j, o) :: l, A, v, cs, hb, hA => by
  simp only [buildParts] at hb
  split at hb
  · rename_i u hu
    cases hc : (s.fits u (s.ev o) && s.shown (s.ev o))
    · simp [hc] at hb
    · simp only [hc, cond_true] at hb
      simp only [Bool.and_eq_true] at hc
      obtain ⟨ds, d1, d2⟩ := (h.ev o).fits hc.1
      obtain ⟨p1, p2⟩ := hp j u hu
      have hone := shown_one h _ _ _ d1 hc.1 hc.2
      have hcells : (wrap u ds).cells = ds.toArray := wrap_cells d1.len p2 hone
      have hfit := comp_fit _ _ _ _ hu
      have hlen := hA.len
      have hset := setPart_sound n j A (s.ev o) t u cs ds hA d1 hu
      obtain ⟨cs', e1, e2⟩ := fill_build h hp l _ v _ hb hset
      refine ⟨cs', ?_, e2⟩
      simp only [List.map_cons, Instr.fill, p1]
      have hsz : (a.eval o).cells.size = u.size := by rw [d2, hcells]; simpa using d1.len
      rw [if_neg (by simp only [hsz, ne_eq, not_true_eq_false, decide_false, Bool.false_or, decide_eq_true_eq, List.size_toArray]; omega)]
      rw [fill_one (v := a.eval o) (ds := ds) (by rw [d2, hcells]) (by rw [d1.len]; omega), d1.len]
      exact e1
  · cases hb
theorem mapM_some {β γ : Type} {f : β → Option γ} : ∀ (l : List β), (∀ x ∈ l, ∃ y, f x = some y) → ∃ ys, l.mapM f = some ys ∧ ys.length = l.length ∧ ∀ (j : Nat) (x : β), l[j]? = some x → ys[j]? = f x
 | [], _ => ⟨[], by simp, rfl, fun j x h => by simp at h⟩
 | x :: l, h => by
  obtain ⟨y, hy⟩ := h x (by simp)
  obtain ⟨ys, h1, h2, h3⟩ := mapM_some l (fun z hz => h z (by simp [hz]))
  refine ⟨y :: ys, by simp [List.mapM_cons, hy, h1], by simp [h2], fun j z hz => ?_⟩
  cases j with
  | zero => simp at hz; subst hz; simp [hy]
  | succ j => simpa using h3 j z (by simpa using hz)
theorem comp_pos {tab : Tab} : ∀ (n j : Nat) (t u : Ty), compTy n j t = some u → j < n
 | 0, _, _, _, h => by simp [compTy] at h
 | 1, 0, _, _, _ => by omega
 | 1, j + 1, t, u, h => by cases t <;> simp [compTy] at h
 | n + 2, 0, _, _, _ => by omega
 | n + 2, j + 1, t, u, h => by
  cases t <;> simp only [compTy] at h <;> try (cases h; done)
  have := comp_pos (tab := tab) (n + 1) j _ u h
  omega
theorem build_sound {tab : Tab} (ht : TabOk P tab) (h : R g0 w0 N s g a w) {T : TypeId} {i : TI} (hi : tab.ti T = some i) (hpr : i.ty.isProd = true) {parts : Array (Nat × Operand)} {v : TV} (hb : buildParts i.arity i.ty s parts.toList (zeroTV i.ty) = some v) :
  ∃ mv, (∀ w, (Instr.build T (parts.map fun (j, x) => (j, a.eval x))).run P w = .ok mv w) ∧ TRep g w s.sig v mv := by
 obtain ⟨ti, h1, h2, h3⟩ := (ht T i hi).info
 have hk := (ht T i hi).kind
 have hw : ∀ cs : List Value, wrap i.ty cs = .agg cs.toArray := by
  intro cs
  cases e' : i.ty <;> rw [e'] at hpr <;> first | rfl | simp [Ty.isProd] at hpr
 have hmap : (parts.map fun (j, x) => (j, a.eval x)).toList = parts.toList.map fun x => (x.1, a.eval x.2) := by simp
 rw [hw] at h3
 have fin : ∀ places : Nat → Option (Nat × Nat), (∀ j u, compTy i.arity j i.ty = some u → places j = some (compOff i.arity j i.ty, u.size) ∧ 0 < u.size) →
  (∀ c, Instr.fill places (zeroCells i.ty).toArray (parts.toList.map fun x => (x.1, a.eval x.2)) = some c → P.built T (parts.map fun (j, x) => (j, a.eval x)).toList = some c) →
  ∃ mv, (∀ w, (Instr.build T (parts.map fun (j, x) => (j, a.eval x))).run P w = .ok mv w) ∧ TRep g w s.sig v mv := by
  intro places hp hf
  obtain ⟨cs', e1, e2⟩ := fill_build h hp parts.toList _ v _ hb (zeroTV_sound i.ty)
  exact ⟨_, fun w => run_build w T _ _ (hf _ e1), by rw [← hw]; exact e2.rep⟩
 cases hty : i.ty <;> rw [hty] at hk hpr <;> first | (simp [Ty.isProd] at hpr; done) | skip
 rename_i ta tb
 rcases hk with ⟨_, har, E, ie, hu, hE, hia, hb'⟩ | ⟨_, fs, hu, hsz, hf⟩
 · subst hb'
   obtain ⟨te, z1, z2, z3⟩ := (ht E ie hE).info
   have hpos := (ht E ie hE).pos
   refine fin (fun i => some (i * te.size, te.size)) (fun j u hj => ?_) (fun c hc => ?_)
   · rw [har, hty] at hj ⊢
     cases j with
     | zero =>
      simp only [compTy, Option.some.injEq] at hj
      subst hj
      rw [← hia]
      exact ⟨by simp [compOff, z2], hpos⟩
     | succ j =>
      cases j with
      | zero =>
       have hj : some tb = some u := hj
       injection hj with hj
       subst hj
       rw [← hia]
       exact ⟨by simp [compOff, z2], hpos⟩
      | succ j => cases tb <;> simp [compTy] at hj
   · rw [hmap]
     simp only [Program.built, h1, hu, h3, z1]
     exact hc
 · obtain ⟨places, m1, m2, m3⟩ := mapM_some (f := fun f : Field => (P.info? f.type).map fun i => (f.offset, i.size)) fs.toList (fun f hm => by
    obtain ⟨j, hj⟩ := List.getElem?_of_mem hm
    obtain ⟨fi, k1, k2, k3⟩ := hf j f (by simpa using hj)
    obtain ⟨tf, z1, z2, z3⟩ := (ht _ _ k1).info
    exact ⟨(f.offset, tf.size), by simp [z1]⟩)
   refine fin (fun j => places.toArray[j]?) (fun j u hj => ?_) (fun c hc => ?_)
   · have hlt := comp_pos (tab := tab) _ _ _ _ hj
     have hlt' : j < fs.size := by omega
     have hget : fs[j]? = some fs[j] := by simp [hlt']
     obtain ⟨fi, k1, k2, k3⟩ := hf j _ hget
     rw [hty] at hj
     rw [k2] at hj
     injection hj with hj
     subst hj
     obtain ⟨tf, z1, z2, z3⟩ := (ht _ _ k1).info
     refine ⟨?_, (ht _ _ k1).pos⟩
     have := m3 j fs[j] (by simp [hlt'])
     simp only [List.getElem?_toArray, this, z1, Option.map_some, k3, z2, hty]
   · rw [hmap]
     simp only [Program.built, h1, hu, h3, m1]
     exact hc
theorem AddrOf.spot {id : RId} : ∀ (p : List Step) (t : Ty) (pre : List Step) (a b : Addr), a.spot = none → AddrOf g id t pre p a b → b.spot = none
 | [], t, pre, a, b, h, e => by simp only [AddrOf] at e; rw [e]; exact h
 | .fst :: p, t, pre, a, b, h, e => by
  cases t <;> simp only [AddrOf] at e
  exact AddrOf.spot p _ _ _ _ h e
 | .snd :: p, t, pre, a, b, h, e => by
  cases t <;> simp only [AddrOf] at e
  exact AddrOf.spot p _ _ _ _ (add_spot h _) e
 | .idx i :: p, t, pre, a, b, h, e => by
  cases t <;> simp only [AddrOf] at e
  obtain ⟨hd, len, cap, e1, e2, e3, e4⟩ := e
  exact AddrOf.spot p _ _ _ _ (add_spot e2 _) e4
 | .arr i :: p, t, pre, a, b, h, e => by
  cases t <;> simp only [AddrOf] at e <;> (obtain ⟨u, _, _, _, e⟩ := e; rw [e]; exact add_spot h _)
theorem R.addr_spot (h : R g0 w0 N s g a w) {id : Id} {p : List Step} {sg : Sig} {ad : Addr} (hs : s.sig id = some sg) (hr : AddrRoot g id sg p ad) : ad.spot = none := by
 unfold St.sig at hs
 cases ho : s.obj id with
 | none => simp [ho] at hs
 | some o =>
  simp only [ho, Option.map_some, Option.some.injEq] at hs
  subst hs
  have hob := h.objs id o ho
  cases o with
  | vec m t xs => exact AddrOf.spot _ _ _ _ _ rfl hr.2
  | box m v =>
   obtain ⟨_, _, _, h1, _⟩ := hob
   exact AddrOf.spot _ _ _ _ _ h1 hr
  | fbox f => rw [hr.2]; exact hob.1
theorem fieldAddr_sound {tab : Tab} (ht : TabOk P tab) (h : R g0 w0 N s g a w) {T : TypeId} {i : TI} (hi : tab.ti T = some i) {x : Operand} {j : Nat} (hA : i.isArr = false) (hp : i.ty.isProd = true) (hj : j < i.arity) {id : Id} {p : List Step} (hx : s.ev x = .addr id p) (hn : noArr p = true) (hty : s.tyOf id p = some i.ty) :
  ∃ mv, (∀ w, (Instr.fieldAt T (a.eval x) j).run P w = .ok mv w) ∧ TRep g w s.sig (.addr id (p ++ fieldSteps i.arity j)) mv := by
 have hr := h.ev x
 rw [hx] at hr
 obtain ⟨ad, h1, h2⟩ := hr
 obtain ⟨u, k1, k2⟩ := run_fieldAt ht hi hA hj hp (ad := ad)
 obtain ⟨sg, g1, g2⟩ := tyOf_sig hty
 rw [h1]
 refine ⟨_, k2, _, rfl, fun sg' hs => ?_⟩
 rw [g1] at hs
 injection hs with hs
 subst hs
 have hsp : ad.spot = none := h.addr_spot g1 (h2 sg g1)
 exact (h2 sg g1).app hn g2 (fieldSteps_addr _ _ _ u _ _ hsp k1)
theorem fieldAddrS_sound {tab : Tab} (ht : TabOk P tab) (h : R g0 w0 N s g a w) {T : TypeId} {i : TI} (hi : tab.ti T = some i) {x : Operand} {j : Nat} (hA : i.isArr = false) (hp : i.ty.isProd = true) (hj : j < i.arity) {v u : Val} (hx : s.ev x = .saddr v) (hv : v.t = i.ty) (hc : valComp i.arity j v = some u) :
  ∃ mv, (∀ w, (Instr.fieldAt T (a.eval x) j).run P w = .ok mv w) ∧ TRep g w s.sig (.saddr u) mv := by
 have hr := h.ev x
 rw [hx] at hr
 obtain ⟨ad, cs, h1, h2, h3, h4, h5, h6⟩ := hr
 obtain ⟨vt, vx⟩ := v
 simp only at hv
 subst hv
 obtain ⟨u', k1, k2⟩ := run_fieldAt ht hi hA hj hp (ad := ad)
 obtain ⟨c1, c, ds, d, c2, c3, c4⟩ := valComp_sound _ _ _ _ _ _ hc h6 hj
 rw [h1]
 refine ⟨_, k2, _, ds, rfl, add_spot h2 _, by rw [add_block]; exact h3, by rw [add_block]; exact h4, ?_, c4⟩
 intro q hq
 rw [add_add h2, ← c3]
 have := h5 (c.length + q) (by rw [c2]; simp; omega)
 rw [this]
 subst c2
 simp [List.getElem_append_right, List.getElem_append_left, hq]
theorem fieldAddrT_sound {tab : Tab} (ht : TabOk P tab) (h : R g0 w0 N s g a w) {T : TypeId} {i : TI} (hi : tab.ti T = some i) {x : Operand} {j : Nat} (hA : i.isArr = false) (hp : i.ty.isProd = true) (hj : j < i.arity) {A : TV} (hx : s.ev x = .tad A) (hf : s.fits i.ty A = true) :
  ∃ mv, (∀ w, (Instr.fieldAt T (a.eval x) j).run P w = .ok mv w) ∧ TRep g w s.sig (.tad (comp i.arity j A)) mv := by
 have hr := h.ev x
 rw [hx] at hr
 obtain ⟨ad, t, cs, h1, h2, h3, h4, h5, h6⟩ := hr
 have h7 := fits_TC h6 hf
 obtain ⟨fi, k1, k2⟩ := run_fieldAt ht hi hA hj hp (ad := ad)
 have hAx : i.ty.isProd = true → (∃ v, A = .val v) ∨ ∃ y z, A = .pr y z := by
  intro _
  cases e : A <;> rw [e] at hf h7
  case val v => exact .inl ⟨_, rfl⟩
  case pr => exact .inr ⟨_, _, rfl⟩
  case ref id p => cases e' : i.ty <;> rw [e'] at h7 hp <;> first | (simp [Ty.isProd] at hp; done) | exact h7.elim
  case sub id p l u => cases e' : i.ty <;> rw [e'] at h7 hp <;> first | (simp [Ty.isProd] at hp; done) | exact h7.elim
  all_goals (cases e' : i.ty <;> rw [e'] at hf hp <;> first | (simp [Ty.isProd] at hp; done) | (simp [St.fits] at hf; done))
 have key : ∀ c ds d : List Value, cs = c ++ ds ++ d → c.length = compOff i.arity j i.ty → cellsAt w (ad.add (compOff i.arity j i.ty)) ds := by
  intro c ds d e1 e2 q hq
  rw [add_add h2, ← e2]
  have := h5 (c.length + q) (by rw [e1]; simp; omega)
  rw [this]
  subst e1
  simp [List.getElem_append_right, List.getElem_append_left, hq]
 rw [h1]
 rcases comp_sound i.arity j A i.ty fi cs h7 hAx k1 hj with ⟨c, ds, d, e1, e2, e3⟩ | hdead
 · exact ⟨_, k2, _, fi, ds, rfl, add_spot h2 _, by rw [add_block]; exact h3, by rw [add_block]; exact h4, key c ds d e1 e2, e3⟩
 · rw [hdead]
   have hle : compOff i.arity j i.ty + fi.size ≤ i.ty.size := comp_fit _ _ _ _ k1
   have hlen := h7.len
   refine ⟨_, k2, _, fi, ((cs.drop (compOff i.arity j i.ty)).take fi.size), rfl, add_spot h2 _, by rw [add_block]; exact h3, by rw [add_block]; exact h4, ?_, TC.dead ?_⟩
   · refine key (cs.take (compOff i.arity j i.ty)) _ ((cs.drop (compOff i.arity j i.ty)).drop fi.size) ?_ ?_
     · rw [List.append_assoc, List.take_append_drop, List.take_append_drop]
     · simp; omega
   · simp; omega
theorem boxT_sound {tab : Tab} (ht : TabOk P tab) (h : R g0 w0 N s g a w) {d : Nat} (hd : d < N) {T : TypeId} {i : TI} (hi : tab.ti T = some i) {x : Operand} (hf : s.fits i.ty (s.ev x) = true) (hs : s.shown (s.ev x) = true) :
  ∃ w' mv, (Instr.box T (a.eval x)).run P w = .ok mv w' ∧ R g0 w0 N (s.set d (.tad (s.ev x))) g (a.put (some d) mv) w' ∧ ∀ b, b < w.heap.size → w'.heap[b]? = w.heap[b]? := by
 obtain ⟨cs, h1, h2⟩ := (h.ev x).fits hf
 have hc := wrap_cells h1.len (ht T i hi).pos (shown_one h _ _ _ h1 hf hs)
 have hle := alloc_le g w (.cells cs.toArray T)
 have hk : ∀ b o, g.own b = some o → (w.alloc (.cells cs.toArray T)).heap[b]? = w.heap[b]? := fun b o e => Below.heap_alloc w _ b (h.lives b o e)
 have hR : R g0 w0 N s g a (w.alloc (.cells cs.toArray T)) := {
  frame := h.frame.trans hle
  tmps := fun t => TRep.le hle _ _ (fun id _ => ⟨fun _ => rfl, rfl, fun _ k => k⟩) (h.tmps t)
  objs := fun id o e => RootRep.same hle ⟨fun _ => rfl, fun _ _ => rfl, fun b p k => ⟨hk b _ k, k⟩⟩ (fun _ => Iff.rfl) o (fun _ _ _ _ => rfl) (h.objs id o e)
  lives := fun b o e => Nat.lt_of_lt_of_le (h.lives b o e) hle.size
  defers := h.defers
  size := h.size
  small := h.small
  ext := h.ext }
 refine ⟨_, .pointer (some ⟨w.heap.size, 0, none⟩), ?_, hR.set hd ⟨_, i.ty, cs, rfl, rfl, .inl ?_, ?_, ?_, h1.le hle _ _ _ (fun id _ => ⟨fun _ => rfl, rfl, fun _ k => k⟩)⟩, fun b hb => Below.heap_alloc w _ b hb⟩
 · rw [h2]; simp [Instr.box, newVar, newRow, hc]
 · cases e : g.own w.heap.size with
   | none => rfl
   | some o => exact absurd (h.lives _ _ e) (Nat.lt_irrefl _)
 · show w.heap.size < (w.heap.push _).size
   simp
 · have := cellsAt_new w cs T #[]
   simpa using this
end
end Go.Ve
namespace Go.Ve
open Go Go.RowKit
section
variable {P : Program} {g0 : Gh} {w0 : Fra} {N : Nat} {s : St} {g : Gh} {a : Act} {w : World} {α : Type} {r : α} {Q : Exit → Act → World → Prop}
def CallOk (P : Program) (cx : Cx) (g0 : Gh) (w0 : Fra) (N : Nat) (Q : Exit → Act → World → Prop) : Prop :=
 ∀ {α : Type} {r : α} {s : St} {g : Gh} {a : Act} {w : World} {K : St → Option α} (o : Oper) (c : Call) (fo : Operand) (f : FnV), R g0 w0 N s g a w → (∀ t, o.dst = some t → t < N) → o.op = .call c → c.callee = .value fo → s.ev fo = .fn f →
  callM cx f c.argTypes.toList (c.args.toList.map s.ev) o.dst s K = some r → o.wp P a w (Next g0 w0 N K r) Q
theorem capsOf_sound (h : R g0 w0 N s g a w) : ∀ (l : List Operand) (ids : List Id), capsOf s l = some ids → l.map a.eval = ids.map fun i => Value.pointer (some (g.base i))
 | [], ids, hc => by simp only [capsOf, Option.some.injEq] at hc; subst hc; rfl
 | o :: l, ids, hc => by
  simp only [capsOf] at hc
  split at hc
  · rename_i id hv
    split at hc
    · rename_i ob ho
      split at hc
      · rename_i is his
        simp only [Option.some.injEq] at hc
        subst hc
        have hx := h.ev o
        rw [hv] at hx
        obtain ⟨ad, e1, e2⟩ := hx
        have e2 := e2 ob.sig (by simp [St.sig, ho])
        have e3 : ad = g.base id := by
         cases ob with
         | vec m t xs => exact absurd rfl e2.1
         | box m v => simpa [Ob.sig, AddrRoot, AddrOf] using e2
         | fbox f => exact e2.2
        simp only [List.map_cons, e1, e3, capsOf_sound h l is his]
      · cases hc
    · cases hc
  · cases hc
theorem ints_sound (h : R g0 w0 N s g a w) : ∀ (l : List Operand) (is : List (IntKind × Int)), ints (l.map s.ev) = some is → l.map a.eval = is.map fun x => Value.int x.1 x.2
 | [], is, hi => by simp [ints] at hi; subst hi; rfl
 | o :: l, is, hi => by
  simp only [ints, List.map_cons, List.mapM_cons, Option.bind_eq_bind, Option.pure_def, Option.bind_eq_some_iff, Option.some.injEq] at hi
  obtain ⟨x, hx, is', hi', rfl⟩ := hi
  split at hx
  · rename_i k i hv
    simp only [Option.some.injEq] at hx
    subst hx
    have hx := h.ev o
    rw [hv] at hx
    have := ints_sound h l is' hi'
    simp only [List.map_cons, hx.int, this]
  · cases hx
theorem run_foldl_max : ∀ (l : List (IntKind × Int)) (k : IntKind) (x : Int), ((l.map fun y => Value.int y.1 y.2).foldlM Builtin.max2 (.int k x)).run P w = .ok (.int k (l.foldl (fun m y => bif decide (m < y.2) then y.2 else m) x)) w
 | [], k, x => by simp
 | y :: l, k, x => by
  simp only [List.map_cons, List.foldlM_cons, Builtin.max2, Sem.run_bind, Sem.run_pure, Result.andThen_ok, List.foldl_cons]
  have : (if y.2 > x then y.2 else x) = (bif decide (x < y.2) then y.2 else x) := by
   by_cases h : x < y.2 <;> simp [h]
  rw [this]
  exact run_foldl_max l k _
theorem run_foldl_min : ∀ (l : List (IntKind × Int)) (k : IntKind) (x : Int), ((l.map fun y => Value.int y.1 y.2).foldlM Builtin.min2 (.int k x)).run P w = .ok (.int k (l.foldl (fun m y => bif decide (y.2 < m) then y.2 else m) x)) w
 | [], k, x => by simp
 | y :: l, k, x => by
  simp only [List.map_cons, List.foldlM_cons, Builtin.min2, Sem.run_bind, Sem.run_pure, Result.andThen_ok, List.foldl_cons]
  have : (if y.2 < x then y.2 else x) = (bif decide (y.2 < x) then y.2 else x) := by
   by_cases h : y.2 < x <;> simp [h]
  rw [this]
  exact run_foldl_min l k _
variable {cx : Cx} {o : Oper} {K : St → Option α}
theorem exec_builtin (ht : TabOk' P cx.tab) (hR : R g0 w0 N s g a w) (hd : ∀ t, o.dst = some t → t < N) {c : Call} (hop : o.op = .call c) {b : Builtin} (hc : c.callee = .builtin b) (h : exec cx o s K = some r) : o.wp P a w (Next g0 w0 N K r) Q := by
 obtain ⟨fl, hev⟩ : ∃ fl, ∀ v, (builtin b c.argTypes o.type fl (c.args.map a.eval)).run P w = v → (execOp a.eval o).run P w = v := by
  have h0 : ∃ fl, (execOp a.eval o).run P w = (builtin b c.argTypes o.type fl (c.args.map a.eval)).run P w := by
   simp only [execOp, hop, resolve, hc, invoke, Sem.run_bind, Sem.run_pure, Result.andThen_ok]
   exact ⟨_, rfl⟩
  obtain ⟨fl, h0⟩ := h0
  exact ⟨fl, fun v e => h0.trans e⟩
 cases b <;> simp only [exec, hop, hc] at h <;> try (cases h; done)
 case len =>
  split at h <;> try (cases h; done)
  rename_i x t hxs hts
  have hxs' : c.args = #[x] := by apply Array.ext'; simpa using hxs
  have hts' : c.argTypes = #[t] := by apply Array.ext'; simpa using hts
  split at h <;> try (cases h; done)
  rename_i i hi
  have hk := (ht.data t i hi).kind
  split at h <;> try (cases h; done)
  · rename_i hty
    simp only [hty] at hk
    split at h <;> try (cases h; done)
    rename_i b hv
    have hx := hR.ev x
    rw [hv] at hx
    refine wp_set hR hd h (TRep.mkInt _ _) (hev _ ?_)
    simp [builtin, hxs', hts', Builtin.len_, hx.str, run_underlying hk, goInt]
  · rename_i e hty
    simp only [hty] at hk
    obtain ⟨E, ie, ti, hk, _⟩ := hk
    split at h <;> try (cases h; done)
    rename_i n hn
    obtain ⟨ad, cap, e⟩ := len_sound hR hn
    refine wp_set hR hd h (TRep.mkInt _ _) (hev _ ?_)
    simp [builtin, hxs', hts', Builtin.len_, e, run_underlying hk, goInt]
 case append =>
  split at h <;> try (cases h; done)
  rename_i d x y t t' hdst hxs hts
  have hxs' : c.args = #[x, y] := by apply Array.ext'; simpa using hxs
  have hts' : c.argTypes = #[t, t'] := by apply Array.ext'; simpa using hts
  cases he : Nat.beq t t'
  · simp [he] at h
  · simp only [he, cond_true] at h
    have := Nat.eq_of_beq_eq_true he
    subst this
    split at h <;> try (cases h; done)
    rename_i i hi
    split at h <;> try (cases h; done)
    rename_i e hty
    obtain ⟨w', s', g', mv, k1, k2, k3⟩ := append_sound (ty := o.type) ht.data hR (hd d hdst) hi hty h
    refine wp_val (w' := w') (hev _ ?_) ⟨s', g', by rw [hdst]; exact k2, k3⟩
    simp [builtin, hxs', hts', k1]
 case copy =>
  split at h <;> try (cases h; done)
  rename_i x y t t' hxs hts
  have hxs' : c.args = #[x, y] := by apply Array.ext'; simpa using hxs
  have hts' : c.argTypes = #[t, t'] := by apply Array.ext'; simpa using hts
  cases he : Nat.beq t t'
  · simp [he] at h
  · simp only [he, cond_true] at h
    have := Nat.eq_of_beq_eq_true he
    subst this
    split at h <;> try (cases h; done)
    rename_i i hi
    split at h <;> try (cases h; done)
    rename_i e hty
    obtain ⟨n, w', s', k1, k2, k3⟩ := copyV_sound (ty := o.type) ht.data hR hi hty h (hR.ev x) (hR.ev y)
    exact wp_val (v := Value.int .i64 n) (w' := w') (hev _ (by simp [builtin, hxs', hts', k3])) ⟨_, _, k2.setD hd (TRep.mkInt _ _), k1⟩
 case max =>
  split at h <;> try (cases h; done)
  rename_i k x l hi
  have he := ints_sound hR _ _ hi
  refine wp_set hR hd h (TRep.mkInt _ _) (hev _ ?_)
  have he : List.map a.eval c.args.toList = Value.int k x :: l.map fun y => Value.int y.1 y.2 := he
  simp [builtin, Builtin.max_, he, run_foldl_max]
 case min =>
  split at h <;> try (cases h; done)
  rename_i k x l hi
  have he := ints_sound hR _ _ hi
  refine wp_set hR hd h (TRep.mkInt _ _) (hev _ ?_)
  have he : List.map a.eval c.args.toList = Value.int k x :: l.map fun y => Value.int y.1 y.2 := he
  simp [builtin, Builtin.min_, he, run_foldl_min]
theorem exec_sound (ht : TabOk' P cx.tab) (hcall : CallOk P cx g0 w0 N Q) (hR : R g0 w0 N s g a w) (hd : ∀ t, o.dst = some t → t < N) (h : exec cx o s K = some r) : o.wp P a w (Next g0 w0 N K r) Q := by
 cases hop : o.op <;> first | (simp only [exec, hop] at h; cases h; done) | skip
 case call c =>
  cases hc : c.callee with
  | builtin b => exact exec_builtin ht hR hd hop hc h
  | value fo =>
   simp only [exec, hop, hc] at h
   split at h <;> try (cases h; done)
   rename_i f hf
   exact hcall o c fo f hR hd hop hc hf h
  | invoke x n => simp only [exec, hop, hc] at h; cases h
 case move x =>
  simp only [exec, hop] at h
  exact wp_set hR hd h (hR.ev x) (by simp [execOp, hop])
 case assign x =>
  simp only [exec, hop] at h
  split at h <;> try (cases h; done)
  rename_i d hdst
  cases hk : cx.keep d
  · simp only [hk, cond_false] at h
    obtain ⟨g', k⟩ := assign_sound hR (hd d hdst) (hR.ev x)
    exact wp_val (v := a.eval x) (w' := w) (by simp [execOp, hop]) ⟨_, g', by rw [hdst]; exact k, h⟩
  · simp only [hk, cond_true] at h
    exact wp_set hR hd h (hR.ev x) (by simp [execOp, hop])
 case pick c x y =>
  simp only [exec, hop] at h
  split at h <;> try (cases h; done)
  rename_i b hv
  have hc := hR.ev c
  rw [hv] at hc
  have hrun : (execOp a.eval o).run P w = .ok (.value (if b = true then a.eval x else a.eval y)) w := by
   simp [execOp, hop, hc.bool, asBool]
  split at h
  · rename_i v v' h1 h2
    split at h <;> try (cases h; done)
    rename_i z hz
    have := castTo_some hz
    subst this
    have r1 := hR.ev x
    have r2 := hR.ev y
    rw [h1] at r1
    rw [h2] at r2
    refine wp_set hR hd h ?_ hrun
    cases b
    · exact r2
    · exact r1
  · cases b
    · exact wp_set hR hd h (hR.ev y) (by simpa using hrun)
    · exact wp_set hR hd h (hR.ev x) (by simpa using hrun)
 case alloc t =>
  simp only [exec, hop] at h
  split at h <;> try (cases h; done)
  · rename_i d i hdst hi
    cases hf : s.free (d, 0)
    · simp [hf] at h
    · simp only [hf, cond_true] at h
      obtain ⟨w', g', mv, k1, k2, _⟩ := alloc_sound ht.data hR (hd d hdst) hf (T := t) (i := i) (by simp [Tab.ti, hi])
      exact wp_val (v := mv) (w' := w') (by simp [execOp, hop, k1]) ⟨_, g', by rw [hdst]; exact k2, h⟩
  · rename_i d hdst hi
    cases hf : s.free (d, 0)
    · simp [hf] at h
    · simp only [hf, cond_true] at h
      obtain ⟨w', g', mv, k1, k2, _⟩ := allocFn_sound hR (hd d hdst) hf (ht.fn t hi)
      exact wp_val (v := mv) (w' := w') (by simp [execOp, hop, k1]) ⟨_, g', by rw [hdst]; exact k2, h⟩
 case box t x =>
  simp only [exec, hop] at h
  split at h <;> try (cases h; done)
  · rename_i d i hdst hi
    cases hkp : cx.keep d
    rotate_left
    · simp only [hkp, cond_true] at h
      cases hf : (s.fits i.ty (s.ev x) && s.shown (s.ev x))
      · simp [hf] at h
      · simp only [hf, cond_true] at h
        simp only [Bool.and_eq_true] at hf
        obtain ⟨w', mv, k1, k2, _⟩ := boxT_sound ht.data hR (hd d hdst) (T := t) (i := i) (by simp [Tab.ti, hi]) hf.1 hf.2
        exact wp_val (v := mv) (w' := w') (by simp [execOp, hop, k1]) ⟨_, g, by rw [hdst]; exact k2, h⟩
    simp only [hkp, cond_false] at h
    split at h <;> try (cases h; done)
    rename_i m v s1 htk
    split at h <;> try (cases h; done)
    rename_i y hy
    have := castTo_some hy
    subst this
    cases hf : s1.free (d, 0)
    · simp [hf] at h
    · simp only [hf, cond_true] at h
      obtain ⟨w', g', mv, k1, k2, _⟩ := box_sound ht.data hR (hd d hdst) (T := t) (i := i) (by simp [Tab.ti, hi]) htk hf
      exact wp_val (v := mv) (w' := w') (by simp [execOp, hop, k1]) ⟨_, g', by rw [hdst]; exact k2, h⟩
  · rename_i d hdst hi
    split at h <;> try (cases h; done)
    rename_i f hv
    cases hf : s.free (d, 0) && !f.caps.any (sameId (d, 0))
    · simp [hf] at h
    · simp only [hf, cond_true] at h
      simp only [Bool.and_eq_true, Bool.not_eq_true'] at hf
      obtain ⟨w', g', mv, k1, k2, _⟩ := boxFn_sound (P := P) (T := t) hR (hd d hdst) hf.1 hv (fun hm => by
       have := List.any_eq_false.1 hf.2 _ hm
       exact this (sameId_eq.2 rfl))
      exact wp_val (v := mv) (w' := w') (by simp [execOp, hop, k1]) ⟨_, g', by rw [hdst]; exact k2, h⟩
 case build t parts =>
  simp only [exec, hop] at h
  split at h <;> try (cases h; done)
  rename_i i hi
  cases hp : i.ty.isProd
  · simp [hp] at h
  · simp only [hp, cond_true] at h
    split at h <;> try (cases h; done)
    rename_i v hv
    obtain ⟨mv, k1, k2⟩ := build_sound ht.data hR hi hp hv
    exact wp_set hR hd h k2 (by simp [execOp, hop, k1])
 case buildSlice t n parts =>
  simp only [exec, hop] at h
  split at h <;> try (cases h; done)
  rename_i d i hdst hi
  split at h <;> try (cases h; done)
  rename_i e hty
  obtain ⟨hg, h⟩ := guardB_some h
  simp only [Bool.and_eq_true, decide_eq_true_eq] at hg
  split at h <;> try (cases h; done)
  rename_i mm xs s1 htk
  cases hf : s1.free (d, 0)
  · simp [hf] at h
  · simp only [hf, cond_true] at h
    obtain ⟨w', g', mv, k1, k2, _⟩ := buildSlice_sound ht.data hR (hd d hdst) hi hty (Nat.eq_of_beq_eq_true hg.1.1) hg.1.2 htk hf hg.2 (bif cx.keep d then .shr else e.full)
    exact wp_val (v := mv) (w' := w') (by simp [execOp, hop, k1]) ⟨_, g', by rw [hdst]; exact k2, h⟩
 case load t x =>
  simp only [exec, hop] at h
  split at h <;> try (cases h; done)
  rename_i k hk hh
  obtain ⟨v, mv, k1, k2, k3⟩ := load_sound ht hR hh hk h
  exact wp_set hR hd k1 k3 (by simp [execOp, hop, k2])
 case store t x y =>
  simp only [exec, hop] at h
  split at h <;> try (cases h; done)
  rename_i k hdst hk
  obtain ⟨w', s', g', k1, k2, k3⟩ := store_sound ht hR hk h
  refine wp_skip' (w' := w') (by simp [execOp, hop, k1]) ?_
  rw [hdst]
  exact ⟨s', g', k2, k3⟩
 case nilCheck x =>
  simp only [exec, hop] at h
  have hx := hR.ev x
  split at h <;> try (cases h; done)
  · rename_i id p hv
    rw [hv] at hx
    have e := hx
    obtain ⟨ad, h1, h2⟩ := hx
    exact wp_set hR hd h e (by simp [execOp, hop, h1])
  · rename_i v hv
    rw [hv] at hx
    have e := hx
    obtain ⟨ad, cs, h1, _⟩ := hx
    exact wp_set hR hd h e (by simp [execOp, hop, h1])
  · rename_i A hv
    rw [hv] at hx
    have e := hx
    obtain ⟨ad, t, cs, h1, _⟩ := hx
    exact wp_set hR hd h e (by simp [execOp, hop, h1])
  · rename_i f hv
    rw [hv] at hx
    have e : a.eval x = FnVal g f := hx
    exact wp_set hR hd h hx (by simp [execOp, hop, e, FnVal])
 case binOp op t x y z =>
  simp only [exec, hop] at h
  obtain ⟨v, mv, k1, k2, k3⟩ := bin_sound (P := P) ht (xo := x) (yo := y) h (hR.ev x) (hR.ev y)
  exact wp_set hR hd k1 k3 (by
   simp only [execOp, hop]
   rw [Sem.run_bind, k2]
   simp)
 case unOp op t x =>
  simp only [exec, hop] at h
  obtain ⟨v, mv, k1, k2, k3⟩ := un_sound (P := P) h (hR.ev x)
  exact wp_set hR hd k1 k3 (by simp [execOp, hop, k2])
 case convert src dst x =>
  simp only [exec, hop] at h
  split at h <;> try (cases h; done)
  rename_i i' hi'
  split at h <;> try (cases h; done)
  rename_i i v hi hv
  have hx := hR.ev x
  rw [hv] at hx
  obtain ⟨v', mv, k1, k2, k3⟩ := conv_sound ht.data hi hi' h hx
  exact wp_set hR hd k1 k3 (by simp [execOp, hop, k2])
 case makeFunc fn first caps =>
  cases fn with
  | func f =>
   simp only [exec, hop] at h
   obtain ⟨hg, h⟩ := guardB_some h
   split at h <;> try (cases h; done)
   rename_i ids hids
   have e := capsOf_sound hR _ _ hids
   have hfirst : first = #[] := by
    apply Array.ext'
    cases hl : first.toList with
    | nil => rfl
    | cons x l => rw [hl] at hg; cases hg
   refine wp_set hR hd h (v := .fn ⟨f, ids⟩) (mv := FnVal g ⟨f, ids⟩) rfl ?_
   have : caps.map a.eval = (ids.map fun i => Value.pointer (some (g.base i))).toArray := by
    apply Array.ext'
    simpa using e
   simp [execOp, hop, Instr.makeFunc, hfirst, this, FnVal]
  | _ => simp only [exec, hop] at h; cases h
 case makeSlice t l c =>
  simp only [exec, hop] at h
  split at h <;> try (cases h; done)
  rename_i d i hdst hi
  split at h <;> try (cases h; done)
  rename_i e k n k' m hty hl hc
  obtain ⟨hg, h⟩ := guardB_some h
  simp only [Bool.and_eq_true, decide_eq_true_eq] at hg
  cases hf : s.free (d, 0)
  · simp [hf] at h
  · simp only [hf, cond_true] at h
    have h1 := hR.ev l
    have h2 := hR.ev c
    rw [hl] at h1
    rw [hc] at h2
    obtain ⟨w', g', mv, k1, k2, _⟩ := makeSlice_sound (k := k) (k' := k') ht.data hR (hd d hdst) hf hi hty hg.1.1 hg.1.2 hg.2
    exact wp_val (v := mv) (w' := w') (by simp [execOp, hop, h1.int, h2.int, k1]) ⟨_, g', by rw [hdst]; exact k2, h⟩
 case slice t x lo hi mx =>
  cases mx with
  | some _ => simp only [exec, hop] at h; cases h
  | none =>
   simp only [exec, hop] at h
   split at h <;> try (cases h; done)
   rename_i i hi'
   split at h <;> try (cases h; done)
   rename_i l u hl hu
   obtain ⟨v, mv, k1, k2, k3⟩ := slice_sound ht.data hR hi' (boundOf_sound hR hl) (boundOf_sound hR hu) h
   exact wp_set hR hd k1 k3 (by simp [execOp, hop, k2])
 case fieldAddr t x j =>
  simp only [exec, hop] at h
  split at h <;> try (cases h; done)
  · rename_i i id p hi hv
    cases hb : noArr p && (!i.isArr && i.ty.isProd && decide (j < i.arity)) && decide (s.tyOf id p = some i.ty)
    · simp [hb] at h
    · simp only [hb, cond_true] at h
      simp only [Bool.and_eq_true, Bool.not_eq_true', decide_eq_true_eq] at hb
      obtain ⟨⟨b1, ⟨b2, b3⟩, b4⟩, b5⟩ := hb
      obtain ⟨mv, k1, k2⟩ := fieldAddr_sound ht.data hR hi b2 b3 b4 hv b1 b5
      exact wp_set hR hd h k2 (by simp [execOp, hop, k1])
  · rename_i i v hi hv
    cases hb : (!i.isArr && i.ty.isProd && decide (j < i.arity)) && decide (v.t = i.ty)
    · simp [hb] at h
    · simp only [hb, cond_true] at h
      simp only [Bool.and_eq_true, Bool.not_eq_true', decide_eq_true_eq] at hb
      obtain ⟨⟨⟨b2, b3⟩, b4⟩, b5⟩ := hb
      split at h <;> try (cases h; done)
      rename_i u hu
      obtain ⟨mv, k1, k2⟩ := fieldAddrS_sound ht.data hR hi b2 b3 b4 hv b5 hu
      exact wp_set hR hd h k2 (by simp [execOp, hop, k1])
  · rename_i i A hi hv
    cases hb : (!i.isArr && i.ty.isProd && decide (j < i.arity)) && s.fits i.ty A
    · simp [hb] at h
    · simp only [hb, cond_true] at h
      simp only [Bool.and_eq_true, Bool.not_eq_true', decide_eq_true_eq] at hb
      obtain ⟨⟨⟨b2, b3⟩, b4⟩, b5⟩ := hb
      obtain ⟨mv, k1, k2⟩ := fieldAddrT_sound ht.data hR hi b2 b3 b4 hv b5
      exact wp_set hR hd h k2 (by simp [execOp, hop, k1])
 case field t x j =>
  simp only [exec, hop] at h
  split at h <;> try (cases h; done)
  rename_i i hi
  cases hb : (!i.isArr && i.ty.isProd && decide (j < i.arity)) && s.fits i.ty (s.ev x)
  · simp [hb] at h
  · simp only [hb, cond_true] at h
    simp only [Bool.and_eq_true, Bool.not_eq_true', decide_eq_true_eq] at hb
    obtain ⟨⟨⟨b2, b3⟩, b4⟩, b5⟩ := hb
    obtain ⟨mv, k1, k2⟩ := field_sound ht.data hR hi b2 b3 b4 b5
    exact wp_set hR hd h k2 (by simp [execOp, hop, k1])
 case indexAddr t x j =>
  simp only [exec, hop] at h
  split at h <;> try (cases h; done)
  rename_i i n hi hn
  obtain ⟨k, hk⟩ : ∃ k, a.eval j = .int k n := by
   unfold intOf at hn
   split at hn <;> try (cases hn; done)
   rename_i k i' hv
   injection hn with hn
   subst hn
   have := hR.ev j
   rw [hv] at this
   exact ⟨k, this.int⟩
  obtain ⟨v, mv, k1, k2, k3⟩ := indexAddr_sound ht.data hR hi hk h
  exact wp_set hR hd k1 k3 (by simp [execOp, hop, k2])
 case index t x j =>
  simp only [exec, hop] at h
  split at h <;> try (cases h; done)
  rename_i i n v hi hn hv
  obtain ⟨k, hk⟩ : ∃ k, a.eval j = .int k n := by
   unfold intOf at hn
   split at hn <;> try (cases hn; done)
   rename_i k i' hv
   injection hn with hn
   subst hn
   have := hR.ev j
   rw [hv] at this
   exact ⟨k, this.int⟩
  have hx := hR.ev x
  rw [hv] at hx
  obtain ⟨v', mv, k1, k2, k3⟩ := index_sound (k := k) ht.data hi h hx
  exact wp_set hR hd k1 k3 (by simp [execOp, hop, hk, k2])
 case extract x j =>
  simp only [exec, hop] at h
  split at h <;> try (cases h; done)
  rename_i l hv
  split at h <;> try (cases h; done)
  rename_i v hnt hl
  have hx := hR.ev x
  rw [hv] at hx
  obtain ⟨mv, k1, k2⟩ := extract_sound (P := P) hx hl (fun l' e => hnt l' e)
  exact wp_set hR hd h k2 (by simp [execOp, hop, k1])
end
end Go.Ve
namespace Go.Ve
open Go Go.RowKit
def ATC (g : Gh) (w : World) : AT → Ty → List Value → Prop
 | .val v, t, cs => v.t = t ∧ SRep g w v.t v.x cs
 | .ref u n p, t, cs => t = .list u ∧ cs = [g.hdr (some (extId n)) p] ∧ noIdx p = true
 | .pr a b, t, cs => ∃ ta tb c d, t = .prod ta tb ∧ cs = c ++ d ∧ c.length = ta.size ∧ d.length = tb.size ∧ ATC g w a ta c ∧ ATC g w b tb d
def ArgRep (g : Gh) (w : World) (i : Nat) : Arg → Value → Prop
 | .val v, mv => ∃ cs, SRep g w v.t v.x cs ∧ mv = wrap v.t cs
 | .own m v, mv => ∃ cs, ORep g w none none v.t m [.idx i] v.x cs ∧ mv = wrap v.t cs
 | .ext n, mv => mv = g.hdr (some (extId n)) []
 | .adr n, mv => mv = .pointer (some (g.base (extId n)))
 | .cst v, mv => TRep1 g w (fun _ => none) (.saddr v) mv
 | .fn f ns, mv => mv = FnVal g ⟨f, ns.map extId⟩
 | .nilfn, mv => mv = .nilFunc
 | .str T, mv => ∃ t cs, ATC g w T t cs ∧ mv = wrap t cs
def ArgsRep (g : Gh) (w : World) : Nat → List Arg → List Value → Prop
 | _, [], [] => True
 | i, x :: xs, v :: vs => ArgRep g w i x v ∧ ArgsRep g w (i + 1) xs vs
 | _, _, _ => False
def RessRep (g : Gh) (w : World) : Nat → List (Mask × Val) → List Value → Prop
 | _, [], [] => True
 | i, r :: rs, v :: vs => (∃ cs, ORep g w none none r.2.t r.1 [.idx i] r.2.x cs ∧ v = wrap r.2.t cs) ∧ RessRep g w (i + 1) rs vs
 | _, _, _ => False
def ResRep (g : Gh) (w : World) (rs : List (Mask × Val)) (v : Value) : Prop :=
 ∃ vs, RessRep g w 0 rs vs ∧ v = match vs with
  | [x] => x
  | l => .tuple l.toArray
structure Left (g : Gh) (w : World) (os : List Ob) (rs : List (Mask × Val)) (os' : List Ob) (v : Value) (g' : Gh) (w' : World) : Prop where
 le : Le g w g' w'
 lives : ∀ b o, g'.own b = some o → b < w'.heap.size
 res : ResRep g' w' rs v
 len : os'.length = os.length
 obs : ∀ k o o', os[k]? = some o → os'[k]? = some o' → o'.sig = o.sig ∧ RootRep g' w' none (extId k) o' ∧ g'.base (extId k) = g.base (extId k) ∧ ((∃ u, o.sig = .vec u) → g'.hdr (some (extId k)) [] = g.hdr (some (extId k)) [])
def Contract (P : Program) (f : FuncId) (as : List Arg) (os : List Ob) (rs : List (Mask × Val)) (os' : List Ob) : Prop :=
 (∃ fn c, P.funcs[f]? = some fn ∧ (fn.name == "runtime.NumGoroutine") = false ∧ fn.body = some c) ∧
 ∀ (g : Gh) (w : World) (vals : Array Value), (∀ b o, g.own b = some o → b < w.heap.size) → ArgsRep g w 0 as vals.toList → (∀ k o, os[k]? = some o → RootRep g w none (extId k) o) →
  Calls P f vals w (fun e w' => ∃ v g', e = .returned v ∧ Left g w os rs os' v g' w')
def MkOk (P : Program) (f h : FuncId) (T : TypeId) : Prop :=
 (∃ fn c, P.funcs[f]? = some fn ∧ (fn.name == "runtime.NumGoroutine") = false ∧ fn.body = some c) ∧
 ∀ (v mv : Value) (w w' : World), (Instr.box T v).run P w = .ok mv w' → Calls P f #[v] w (fun e w1 => e = .returned (.func (.func h) #[] #[mv]) ∧ w1 = w')
def EnvOk (P : Program) (env : Env) : Prop := (∀ f as os {α : Type} (K : Res → Option α) (r : α), env.call f as os K = some r → ∃ rs os', Contract P f as os rs os' ∧ K (rs, os') = some r) ∧
 ∀ f h T, env.made f = some (h, T) → MkOk P f h T
section
variable {P : Program} {g0 : Gh} {w0 : Fra} {N : Nat} {s : St} {g : Gh} {a : Act} {w : World} {α : Type} {r : α} {Q : Exit → Act → World → Prop}
theorem placeOf_go : ∀ (l : List Id) (k n : Nat) (id : Id), placeOf.go id k l = some n → k ≤ n ∧ l[n - k]? = some id
 | [], _, _, _, h => by simp [placeOf.go] at h
 | i :: l, k, n, id, h => by
  simp only [placeOf.go] at h
  cases hs : sameId i id
  · simp only [hs, cond_false] at h
    obtain ⟨h1, h2⟩ := placeOf_go l (k + 1) n id h
    refine ⟨by omega, ?_⟩
    rw [show n - k = (n - (k + 1)) + 1 by omega]
    simpa using h2
  · simp only [hs, cond_true, Option.some.injEq] at h
    subst h
    simp [sameId_eq.1 hs]
theorem placeOf_some {L : List Id} {id : Id} {n : Nat} (h : placeOf L id = some n) : L[n]? = some id := (placeOf_go L 0 n id h).2
theorem placeOf_go_none : ∀ (l : List Id) (k : Nat) (id : Id), placeOf.go id k l = none → id ∉ l
 | [], _, _, _ => by simp
 | i :: l, k, id, h => by
  simp only [placeOf.go] at h
  cases hs : sameId i id
  · simp only [hs, cond_false] at h
    have := placeOf_go_none l (k + 1) id h
    intro hm
    rcases List.mem_cons.1 hm with rfl | hm
    · rw [sameId_eq.2 rfl] at hs; cases hs
    · exact this hm
  · simp [hs] at h
theorem placeOf_none {L : List Id} {id : Id} (h : placeOf L id = none) : id ∉ L := placeOf_go_none L 0 id h
theorem memId_iff {L : List Id} {id : Id} : memId L id = true ↔ id ∈ L := by
 simp only [memId, List.any_eq_true]
 constructor
 · rintro ⟨x, h1, h2⟩; rw [sameId_eq.1 h2]; exact h1
 · intro h; exact ⟨id, h, sameId_eq.2 rfl⟩
theorem nodup_ids : ∀ {L : List Id}, nodupIds L = true → L.Nodup
 | [], _ => List.nodup_nil
 | i :: l, h => by
  simp only [nodupIds, Bool.and_eq_true, Bool.not_eq_true'] at h
  refine List.nodup_cons.2 ⟨fun hm => ?_, nodup_ids h.2⟩
  rw [memId_iff.2 hm] at h
  cases h.1
theorem placeOf_at {L : List Id} (hn : L.Nodup) {id : Id} {n : Nat} (h : L[n]? = some id) : placeOf L id = some n := by
 cases e : placeOf L id with
 | none => exact absurd (List.mem_of_getElem? h) (placeOf_none e)
 | some k =>
  have := placeOf_some e
  obtain ⟨h1, h2⟩ := List.getElem?_eq_some_iff.1 h
  obtain ⟨h3, h4⟩ := List.getElem?_eq_some_iff.1 this
  have := (List.getElem_inj (h₀ := h3) (h₁ := h1) hn).1 (by rw [h4, h2])
  rw [this]
theorem extId_inj {i j : Nat} (h : extId i = extId j) : i = j := by
 simp only [extId, Prod.mk.injEq] at h; omega
theorem backId_ext {L : List Id} {k : Nat} : backId L (extId k) = L[k]? := by
 have : (extId k).1 - 1000000 = k := by simp [extId]
 simp [backId, this, sameId_eq.2 rfl]
theorem backId_some {L : List Id} {i j : Id} (h : backId L i = some j) : ∃ k, i = extId k ∧ L[k]? = some j := by
 unfold backId at h
 cases hs : sameId i (extId (i.1 - 1000000))
 · simp [hs] at h
 · simp only [hs, cond_true] at h
   exact ⟨_, sameId_eq.1 hs, h⟩
def _root_.Go.Ve.Gh.call (g : Gh) (L lent : List Id) : Gh where
 hdr i r := match i with
  | none => g.hdr none r
  | some id => match backId L id with
   | some j => g.hdr (some j) r
   | none => g.hdr (some id) r
 base id := match backId L id with
  | some j => g.base j
  | none => g.base id
 own b := match g.own b with
  | some (some id, r) => match placeOf L id with
   | some k => some (some (extId k), r)
   | none => if id ∈ lent ∧ r ≠ none then none else some (none, none)
  | o => o
variable {L lent : List Id}
theorem call_le : Le g w (g.call L lent) w := ⟨rfl, rfl, rfl, Nat.le_refl _, fun b _ h => ⟨rfl, by simp [Gh.call, h]⟩, fun b _ h => ⟨rfl, by simp [Gh.call, h]⟩⟩
theorem call_float {b : Nat} {r : Option (List Step)} (h : g.own b = some (none, r)) : (g.call L lent).own b = some (none, r) := by simp [Gh.call, h]
theorem call_own (hn : L.Nodup) {b k : Nat} {id : Id} {r : Option (List Step)} (hk : L[k]? = some id) (h : g.own b = some (some id, r)) : (g.call L lent).own b = some (some (extId k), r) := by simp [Gh.call, h, placeOf_at hn hk]
theorem call_hdr {k : Nat} {id : Id} (hk : L[k]? = some id) (r : List Step) : (g.call L lent).hdr (some (extId k)) r = g.hdr (some id) r := by simp [Gh.call, backId_ext, hk]
theorem call_base {k : Nat} {id : Id} (hk : L[k]? = some id) : (g.call L lent).base (extId k) = g.base id := by simp [Gh.call, backId_ext, hk]
theorem call_lent {b : Nat} {id : Id} {r : List Step} (hl : id ∈ lent) (hL : id ∉ L) (h : g.own b = some (some id, some r)) : (g.call L lent).own b = none := by
 have : placeOf L id = none := by
  cases e : placeOf L id with
  | none => rfl
  | some k => exact absurd (List.mem_of_getElem? (placeOf_some e)) hL
 simp [Gh.call, h, this, hl]
theorem call_cell {b : Nat} {id : Id} (hL : id ∉ L) (h : g.own b = some (some id, none)) : (g.call L lent).own b = some (none, none) := by
 have : placeOf L id = none := by
  cases e : placeOf L id with
  | none => rfl
  | some k => exact absurd (List.mem_of_getElem? (placeOf_some e)) hL
 simp [Gh.call, h, this]
structure Keeps (g : Gh) (w : World) (g' : Gh) (w' : World) : Prop where
 size : w.heap.size ≤ w'.heap.size
 keep : ∀ b, b < w.heap.size → g.own b = none → w'.heap[b]? = w.heap[b]? ∧ g'.own b = none
theorem SRep.keep {g g' : Gh} {w w' : World} (hl : Keeps g w g' w') : ∀ (t : Ty) (x : t.den) (cs : List Value), SRep g w t x cs → SRep g' w' t x cs
 | .int _, _, _, h => h
 | .bool, _, _, h => h
 | .str, _, _, h => h
 | .unit, _, _, h => h
 | .prod a b, x, cs, ⟨c, d, e, h1, h2⟩ => ⟨c, d, e, SRep.keep hl a x.1 c h1, SRep.keep hl b x.2 d h2⟩
 | .list t, xs, cs, h => by
  rcases h with h | ⟨a, cap, e, hs, hc, h⟩
  · exact .inl h
  · refine .inr ⟨a, cap, e, hs, hc, fun i hi => ?_⟩
    obtain ⟨ho, hb, ds, h1, h2⟩ := h i hi
    obtain ⟨e1, o1⟩ := hl.keep _ hb ho
    exact ⟨o1, Nat.lt_of_lt_of_le hb hl.size, ds, cellsAt_of (by rw [add_block]; exact e1) h1, SRep.keep hl t _ ds h2⟩
theorem SRep.bare {g g' : Gh} {w w' : World} : ∀ (t : Ty) (x : t.den) (cs : List Value), t.lists = false → SRep g w t x cs → SRep g' w' t x cs
 | .int _, _, _, _, h => h
 | .bool, _, _, _, h => h
 | .str, _, _, _, h => h
 | .unit, _, _, _, h => h
 | .prod a b, x, cs, hn, ⟨c, d, e, h1, h2⟩ => by
  simp only [Ty.lists, Bool.or_eq_false_iff] at hn
  exact ⟨c, d, e, SRep.bare a x.1 c hn.1 h1, SRep.bare b x.2 d hn.2 h2⟩
 | .list t, xs, cs, hn, h => by simp [Ty.lists] at hn
theorem SRep.carry {g g' : Gh} {w w' : World} {t : Ty} {x : t.den} {cs : List Value} (hk : t.lists = false ∨ Keeps g w g' w') (h : SRep g w t x cs) : SRep g' w' t x cs := by
 rcases hk with hk | hk
 · exact SRep.bare t x cs hk h
 · exact h.keep hk
theorem ORep.carry {g g' : Gh} {w w' : World} {hl hl' : Option (RId × List Step)} {id id' : RId} :
  ∀ (t : Ty) (m : Mask) (p p' : List Step) (x : t.den) (cs : List Value), (sharedIn m t = false ∨ Keeps g w g' w') → Moved g w hl g' w' hl' id p id' p' → ORep g w hl id t m p x cs → ORep g' w' hl' id' t m p' x cs
 | .list t, .own m, p, p', xs, cs, hk, hm, h => by
  rcases h with ⟨h1, h2⟩ | ⟨h1, h2, h3⟩
  · exact .inl ⟨by have := (hm.hole []).2; simp only [List.append_nil] at this; exact this h1, h2⟩
  · have e0 := hm.hdr []
    have e1 := hm.hole []
    simp only [List.append_nil] at e0 e1
    refine .inr ⟨fun e => h1 (e1.1 e), by rw [e0]; exact h2, ?_⟩
    rcases h3 with h3 | ⟨a, cap, c, e, h1, h2, h3, h4, h5, h6, h7, h8⟩
    · exact .inl (by rw [e0]; exact h3)
    · have e2 := hm.own a.block []
      simp only [List.append_nil] at e2
      obtain ⟨e3, e4⟩ := e2 h3
      refine .inr ⟨a, cap, c, e, by rw [e0]; exact h1, h2, e4, by rw [e3]; exact h4, h5, h6, h7, fun i hi => ?_⟩
      obtain ⟨ds, d1, hi', d2⟩ := h8 i hi
      exact ⟨ds, cellsAt_of (by rw [add_block]; exact e3) d1, hi', ORep.carry t m _ _ _ ds hk (hm.at _) d2⟩
 | .prod a b, .prod ma mb, p, p', x, cs, hk, hm, ⟨c, d, e, h1, h2⟩ => by
  have hk1 : sharedIn ma a = false ∨ Keeps g w g' w' := hk.imp (fun h => by simp only [sharedIn, Bool.or_eq_false_iff] at h; exact h.1) (fun h => h)
  have hk2 : sharedIn mb b = false ∨ Keeps g w g' w' := hk.imp (fun h => by simp only [sharedIn, Bool.or_eq_false_iff] at h; exact h.2) (fun h => h)
  exact ⟨c, d, e, ORep.carry a ma _ _ _ c hk1 (hm.at _) h1, ORep.carry b mb _ _ _ d hk2 (hm.at _) h2⟩
 | .list t, .shr, p, _, xs, cs, hk, _, h => SRep.carry (t := .list t) hk h
 | .list t, .prod _ _, p, _, xs, cs, hk, _, h => SRep.carry (t := .list t) hk h
 | .prod a b, .shr, p, _, x, cs, hk, _, h => SRep.carry (t := .prod a b) hk h
 | .prod a b, .own _, p, _, x, cs, hk, _, h => SRep.carry (t := .prod a b) hk h
 | .int k, _, p, _, x, cs, _, _, h => SRep.bare (.int k) x cs rfl h
 | .bool, _, p, _, x, cs, _, _, h => SRep.bare .bool x cs rfl h
 | .str, _, p, _, x, cs, _, _, h => SRep.bare .str x cs rfl h
 | .unit, _, p, _, x, cs, _, _, h => SRep.bare .unit x cs rfl h
theorem RootRep.carry {g g' : Gh} {w w' : World} {id id' : Id} {o : Ob} (hk : o.shares = false ∨ Keeps g w g' w') (hh : ∀ r, g'.hdr (some id') r = g.hdr (some id) r) (hb : g'.base id' = g.base id)
  (ho : ∀ b r, g.own b = some (some id, r) → w'.heap[b]? = w.heap[b]? ∧ g'.own b = some (some id', r)) {o' : Ob}
  (he : o' = o ∨ ∃ f f' : FnV, o = .fbox (some f) ∧ o' = .fbox (some f') ∧ FnVal g' f' = FnVal g f) (hf : ∀ f, o = .fbox (some f) → ∃ f', o' = .fbox (some f') ∧ FnVal g' f' = FnVal g f) (h : RootRep g w none id o) : RootRep g' w' none id' o' := by
 have hmv : ∀ p, Moved g w none g' w' none (some id) p (some id') p := fun p => ⟨fun q => hh _, fun b q e => ho b _ e, fun q => ⟨(fun e => by cases e), (fun e => by cases e)⟩⟩
 cases o with
 | vec m t xs =>
  have he : o' = .vec m t xs := by
   rcases he with he | ⟨f, f', e, _⟩
   · exact he
   · cases e
  subst he
  have : ORep g w none (some id) (.list t) (.own m) [] xs [g.hdr (some id) []] := .inr ⟨by simp, rfl, h⟩
  have k := ORep.carry _ _ [] [] _ _ (by simpa [Ob.shares, sharedIn] using hk) (hmv []) this
  rcases k with ⟨k, _⟩ | ⟨_, _, k⟩
  · cases k
  · exact k
 | box m v =>
  have he : o' = .box m v := by
   rcases he with he | ⟨f, f', e, _⟩
   · exact he
   · cases e
  subst he
  obtain ⟨cs, c, e, h1, h2, h3, h4, h5⟩ := h
  obtain ⟨e1, o1⟩ := ho _ _ h2
  exact ⟨cs, c, e, by rw [hb]; exact h1, by rw [hb]; exact o1, by rw [hb, e1]; exact h3, by rw [hb]; exact cellsAt_of e1 h4, ORep.carry _ _ [] [] _ _ (by simpa [Ob.shares] using hk) (hmv []) h5⟩
 | fbox f =>
  obtain ⟨h1, h2, ⟨c, e, h3⟩, h4⟩ := h
  obtain ⟨e1, o1⟩ := ho _ _ h2
  cases f with
  | none =>
   have he : o' = .fbox none := by
    rcases he with he | ⟨f, f', e, _⟩
    · exact he
    · cases e
   subst he
   exact ⟨by rw [hb]; exact h1, by rw [hb]; exact o1, ⟨c, e, by rw [hb, e1]; exact h3⟩, by rw [hb, World.cell?_of_block (w := w) e1, h4]⟩
  | some f =>
   obtain ⟨f', rfl, hv⟩ := hf f rfl
   refine ⟨by rw [hb]; exact h1, by rw [hb]; exact o1, ⟨c, e, by rw [hb, e1]; exact h3⟩, ?_⟩
   rw [hb, World.cell?_of_block (w := w) e1, h4]
   exact congrArg some hv.symm
end
end Go.Ve
namespace Go.Ve
open Go Go.RowKit
section
variable {P : Program} {g0 : Gh} {w0 : Fra} {N : Nat} {s : St} {g : Gh} {a : Act} {w : World} {α : Type} {r : α} {Q : Exit → Act → World → Prop} {L lent : List Id}
def TakenRep (g : Gh) (w : World) : Nat → List (Option (Mask × Val)) → List Value → Prop
 | _, [], [] => True
 | i, x :: xs, v :: vs => (∀ m u, x = some (m, u) → ∃ cs, ORep g w none none u.t m [.idx i] u.x cs ∧ v = wrap u.t cs) ∧ TakenRep g w (i + 1) xs vs
 | _, _, _ => False
structure Calm (g g' : Gh) (w : World) (s s' : St) (k : Nat) : Prop where
 le : Le g w g' w
 hdr : ∀ j z, j < k → g'.hdr none (.idx j :: z) = g.hdr none (.idx j :: z)
 own : ∀ b j z, j < k → g.own b = some (none, some (.idx j :: z)) → g'.own b = some (none, some (.idx j :: z))
 base : ∀ i, g'.base i = g.base i
 all : ∀ i r, g'.hdr (some i) r = g.hdr (some i) r
 obj : ∀ id o, s'.obj id = some o → s.obj id = some o
theorem Calm.sig {g g' : Gh} {s s' : St} {k : Nat} (c : Calm g g' w s s' k) (id : Id) : Fits g g' s.sig s'.sig id := ⟨c.all id, c.base id, fun sg hs => by
 simp only [St.sig] at hs ⊢
 cases e : s'.obj id with
 | none => simp [e] at hs
 | some o => rw [c.obj _ _ e]; rw [e] at hs; exact hs⟩
theorem Calm.rep {g g' : Gh} {s s' : St} {k : Nat} (c : Calm g g' w s s' k) {A : TV} {mv : Value} (h : TRep g w s.sig A mv) : TRep g' w s'.sig A mv := TRep.le c.le _ _ (fun id _ => c.sig id) h
theorem Calm.float {g g' : Gh} {s s' : St} {k : Nat} (c : Calm g g' w s s' k) {t : Ty} {m : Mask} {i : Nat} (hi : i < k) {x : t.den} {cs : List Value} (h : ORep g w none none t m [.idx i] x cs) : ORep g' w none none t m [.idx i] x cs :=
 ORep.move c.le _ _ [.idx i] [.idx i] _ _ ⟨fun z => c.hdr i z hi, fun b z e => ⟨rfl, c.own b i z hi e⟩, fun _ => Iff.rfl⟩ h
theorem Calm.trans {g1 g2 g3 : Gh} {s1 s2 s3 : St} {k l : Nat} (c : Calm g1 g2 w s1 s2 k) (d : Calm g2 g3 w s2 s3 l) (h : k ≤ l) : Calm g1 g3 w s1 s3 k :=
 ⟨c.le.trans d.le, fun j z hj => (d.hdr j z (by omega)).trans (c.hdr j z hj), fun b j z hj e => d.own b j z (by omega) (c.own b j z hj e), fun i => (d.base i).trans (c.base i), fun i r => (d.all i r).trans (c.all i r), fun id o e => c.obj id o (d.obj id o e)⟩
theorem takeA_rep (h : R g0 w0 N s g a w) {A : TV} {mv : Value} (hA : TRep g w s.sig A mv) {want : Ty} {m : Mask} {v : Val} {s' : St} (ht : takeA s want A = some (m, v, s')) (q : List Step) :
  ∃ g' cs, mv = wrap v.t cs ∧ R g0 w0 N s' g' a w ∧ ORep g' w none none v.t m q v.x cs ∧ Le g w g' w ∧ Float g g' q ∧ (∀ id o, s'.obj id = some o → s.obj id = some o) := by
 unfold takeA at ht
 split at ht
 · rename_i id
   split at ht
   · rename_i r hr
     cases e2 : r.2.1.t.isProd
     · rw [e2] at ht
       simp only [cond_false, Option.some.injEq] at ht
       subst ht
       obtain ⟨t, cs, h1, h2⟩ := hA
       obtain ⟨g', k1, k2, k3, k4, k5⟩ := takeBox_sound h hr h1 q
       refine ⟨g', cs, ?_, k1, k2, k3, k4, k5⟩
       rw [h2]
       refine wrap_congr ?_
       have e1 : t.isProd = false := by cases t <;> first | exact h1.elim | rfl
       rw [e1]
       exact e2.symm
     · rw [e2] at ht
       cases ht
   · exact take_rep h hA ht q
 · exact take_rep h hA ht q
theorem takeArgs_sound {tab : Tab} {mode : Nat → Nat} {ts : List TypeId} : ∀ (As : List TV) (n : Nat) (s s' : St) (g : Gh) (tk : List (Option (Mask × Val))) (vals : List Value), takeArgs tab mode ts n s As = some (tk, s') → R g0 w0 N s g a w →
  All2 (TRep g w s.sig) As vals → ∃ g', R g0 w0 N s' g' a w ∧ Calm g g' w s s' n ∧ TakenRep g' w n tk vals
 | [], n, s, s', g, tk, vals, ht, h, hA => by
  simp only [takeArgs, Option.some.injEq, Prod.mk.injEq] at ht
  obtain ⟨rfl, rfl⟩ := ht
  cases vals with
  | cons _ _ => exact hA.elim
  | nil => exact ⟨g, h, ⟨Le.refl _ _, fun _ _ _ => rfl, fun _ _ _ _ e => e, fun _ => rfl, fun _ _ => rfl, fun _ _ e => e⟩, trivial⟩
 | A :: As, n, s, s', g, tk, vals, ht, h, hA => by
  cases vals with
  | nil => exact hA.elim
  | cons mv vals =>
  obtain ⟨hA1, hA2⟩ := hA
  have skip : ∀ (l : List (Option (Mask × Val))) (s'' : St), takeArgs tab mode ts (n + 1) s As = some (l, s'') → tk = none :: l → s' = s'' → ∃ g', R g0 w0 N s' g' a w ∧ Calm g g' w s s' n ∧ TakenRep g' w n tk (mv :: vals) := by
   rintro l s'' e rfl rfl
   obtain ⟨g', k1, k2, k3⟩ := takeArgs_sound As (n + 1) s s' g l vals e h hA2
   exact ⟨g', k1, ⟨k2.le, fun j z hj => k2.hdr j z (by omega), (fun b j z hj => k2.own b j z (by omega)), k2.base, k2.all, k2.obj⟩, (fun _ _ e => by cases e), k3⟩
  simp only [takeArgs] at ht
  split at ht
  · split at ht
    · rename_i t ht'
      split at ht
      · rename_i m v s1 htk
        split at ht
        · rename_i l s2 hrec
          simp only [Option.some.injEq, Prod.mk.injEq] at ht
          obtain ⟨rfl, rfl⟩ := ht
          obtain ⟨g1, cs, f1, f2, f3, f4, f5, f6⟩ := takeA_rep h hA1 htk [.idx n]
          have c1 : Calm g g1 w s s1 n := ⟨f4, fun j z hj => f5.hdr _ (fun z' e => by simp at e; omega), fun b j z hj e => f5.own b _ (fun z' e => by simp at e; omega) e, f5.base, f5.all, f6⟩
          obtain ⟨g2, k1, k2, k3⟩ := takeArgs_sound As (n + 1) s1 s2 g1 l vals hrec f2 (All2.imp (fun _ _ _ e => c1.rep e) hA2)
          exact ⟨g2, k1, c1.trans k2 (by omega), (fun m' u e => by
           injection e with e
           injection e with e1 e2
           subst e1 e2
           exact ⟨cs, k2.float (by omega) f3, f1⟩), k3⟩
        · cases ht
      · cases ht
    · cases ht
  · split at ht
    · rename_i l s2 hrec
      simp only [Option.some.injEq, Prod.mk.injEq] at ht
      exact skip l s2 hrec ht.1.symm ht.2.symm
    · cases ht
theorem look_free (h : R g0 w0 N s g a w) (hh : s.hole = none) (hL : ∀ id ∈ lent, id ∉ L) : ∀ (A : TV) (t : Ty) (cs : List Value) (v : Val), TC g w s.sig A t cs → s.look t A = some v → (∀ id ∈ rootsOf A, id ∈ lent) →
  v.t = t ∧ SRep (g.call L lent) w v.t v.x cs
 | .val v0, t, cs, v, ⟨h1, h2⟩, hl, _ => by
  simp only [St.look, Option.some.injEq] at hl
  subst hl
  exact ⟨h1, h2.le call_le⟩
 | .nil, .list t, cs, v, hc, hl, _ => by
  simp only [St.look, Option.some.injEq] at hl
  subst hl
  simp only [TC] at hc
  subst hc
  exact ⟨rfl, .inl ⟨rfl, rfl⟩⟩
 | .ref id p, .list t, cs, v, ⟨h1, h2⟩, hl, hr => by
  simp only [St.look] at hl
  split at hl <;> try (cases hl; done)
  rename_i m u xs hs
  simp only [Option.some.injEq] at hl
  subst hl
  have hu : u = t := by
   obtain ⟨sg, k1, k2⟩ := seen_sig hs
   rw [(h2 sg k1).1] at k2
   injection k2 with k2
   injection k2 with k2
   exact k2.symm
  subst hu
  obtain ⟨E, hE, hE'⟩ := h.header hs (fun sg hsg => (h2 sg hsg).2)
  have ho : ORep g w none (some id) (.list u) (.own m) p xs cs := by
   refine .inr ⟨by simp, h1, LRep.same (Same.refl g w _) (fun i ds _ e => ?_) hE⟩
   have := hE' i ds e
   rwa [St.hl, hh] at this
  have hid : id ∈ lent := hr id (by simp [rootsOf])
  exact ⟨rfl, ORep.free call_le _ _ _ _ _ ⟨fun b q e => ⟨rfl, call_lent hid (hL id hid) e⟩, fun q => by simp⟩ ho⟩
 | .sub id p lo hi, .list t, cs, v, ⟨h1, hle, h2⟩, hl, hr => by
  simp only [St.look] at hl
  split at hl <;> try (cases hl; done)
  rename_i m u xs hs
  simp only [Option.some.injEq] at hl
  subst hl
  have hu : u = t := by
   obtain ⟨sg, k1, k2⟩ := seen_sig hs
   rw [(h1 sg k1).1] at k2
   injection k2 with k2
   injection k2 with k2
   exact k2.symm
  subst hu
  obtain ⟨E, hE, hE'⟩ := h.header hs (fun sg hsg => (h1 sg hsg).2)
  have ho : ORep g w none (some id) (.list u) (.own m) p xs [g.hdr (some id) p] := by
   refine .inr ⟨by simp, rfl, LRep.same (Same.refl g w _) (fun i ds _ e => ?_) hE⟩
   have := hE' i ds e
   rwa [St.hl, hh] at this
  have hid : id ∈ lent := hr id (by simp [rootsOf])
  have hs' := ORep.free (g' := g.call L lent) (w' := w) call_le _ _ _ _ _ ⟨fun b q e => ⟨rfl, call_lent hid (hL id hid) e⟩, fun q => by simp⟩ ho
  refine ⟨rfl, ?_⟩
  have hlen : hi ≤ xs.length := by
   rcases h2 with ⟨_, k, _⟩ | ⟨ad, len, cap, b, k1, _, k3, k4, _⟩
   · omega
   · rcases hE with ⟨z, _⟩ | ⟨ad', cap', _, _, z, _⟩
     · rw [k1] at z; cases z
     · rw [k1] at z
       injection z with _ z _
       omega
  obtain ⟨ad', cap', e1, e2, e3⟩ := hs'.slice hle hlen
  rcases h2 with ⟨k1, k2, k3⟩ | ⟨ad, len, cap, b, k1, k2, k3, k4, k5, k6, k7, k8, k9⟩
  · subst k2 k3
    exact .inl ⟨rfl, by simp⟩
  · rw [wrap_list, k1] at e1
    injection e1 with e1 e4 e5
    subst e1 e5
    rw [k9]
    by_cases hc : cap = lo
    · have hz : hi - lo = 0 := by omega
      have hnil : (List.take hi xs).drop lo = [] := List.eq_nil_of_length_eq_zero (by simp; omega)
      refine .inr ⟨b, cap - lo, by rw [hnil, hz]; rfl, fun _ => k7, by rw [hnil]; simp, fun i hi' => ?_⟩
      rw [hnil] at hi'
      simp at hi'
    · rw [if_neg hc] at e3
      rw [k5 (by omega)]
      exact e3
 | .pr A B, .prod ta tb, cs, v, ⟨c, d, e, _, _, h1, h2⟩, hl, hr => by
  simp only [St.look] at hl
  split at hl <;> try (cases hl; done)
  rename_i va vb hA hB
  simp only [Option.some.injEq] at hl
  subst hl
  subst e
  obtain ⟨e1, k1⟩ := look_free h hh hL A ta c va h1 hA (fun id hi => hr id (by simp [rootsOf, hi]))
  obtain ⟨e2, k2⟩ := look_free h hh hL B tb d vb h2 hB (fun id hi => hr id (by simp [rootsOf, hi]))
  exact ⟨by show va.t.prod vb.t = _; rw [e1, e2], c, d, rfl, k1, k2⟩
 | .dead, t, _, _, _, hl, _ => by cases t <;> simp [St.look] at hl
 | .addr _ _, t, _, _, _, hl, _ => by cases t <;> simp [St.look] at hl
 | .saddr _, t, _, _, _, hl, _ => by cases t <;> simp [St.look] at hl
 | .fn _, t, _, _, _, hl, _ => by cases t <;> simp [St.look] at hl
 | .nilfn, t, _, _, _, hl, _ => by cases t <;> simp [St.look] at hl
 | .tup _, t, _, _, _, hl, _ => by cases t <;> simp [St.look] at hl
 | .tad _, t, _, _, _, hl, _ => by cases t <;> simp [St.look] at hl
theorem placesOf_some : ∀ (is : List Id) (ns : List Nat), placesOf L is = some ns → is.map (fun i => Value.pointer (some (g.base i))) = (ns.map extId).map fun i => Value.pointer (some ((g.call L lent).base i))
 | [], ns, h => by simp only [placesOf, Option.some.injEq] at h; subst h; rfl
 | i :: is, ns, h => by
  simp only [placesOf] at h
  split at h <;> try (cases h; done)
  rename_i n hn
  split at h <;> try (cases h; done)
  rename_i ns' hns
  simp only [Option.some.injEq] at h
  subst h
  simp only [List.map_cons, placesOf_some is ns' hns, call_base (placeOf_some hn)]
theorem strOf_sound : ∀ (A : TV) (t : Ty) (cs : List Value) (T : AT), TC g w s.sig A t cs → strOf L s t A = some T → ATC (g.call L lent) w T t cs
 | .val v, t, cs, T, hc, hx => by
  obtain ⟨h1, h2⟩ := hc
  have hx' : (match castTo t v with | some x => some (AT.val ⟨t, x⟩) | none => none) = some T := by cases t <;> exact hx
  split at hx' <;> try (cases hx'; done)
  rename_i x hv
  simp only [Option.some.injEq] at hx'
  subst hx'
  have e := castTo_some hv
  subst e
  exact ⟨rfl, h2.le call_le⟩
 | .nil, t, cs, T, hc, hx => by
  cases t <;> simp only [strOf] at hx <;> try (cases hx; done)
  simp only [Option.some.injEq] at hx
  subst hx
  simp only [TC] at hc
  subst hc
  exact ⟨rfl, .inl ⟨rfl, rfl⟩⟩
 | .ref id p, t, cs, T, hc, hx => by
  cases t <;> simp only [strOf] at hx <;> try (cases hx; done)
  rename_i u
  split at hx <;> try (cases hx; done)
  rename_i n hn
  cases hb : (noIdx p && decide (s.tyOf id p = some (.list u)))
  · simp [hb] at hx
  · simp only [hb, cond_true, Option.some.injEq] at hx
    simp only [Bool.and_eq_true, decide_eq_true_eq] at hb
    subst hx
    obtain ⟨h1, h2⟩ := hc
    exact ⟨rfl, by rw [h1, call_hdr (placeOf_some hn)], hb.1⟩
 | .pr a b, t, cs, T, hc, hx => by
  cases t <;> simp only [strOf] at hx <;> try (cases hx; done)
  split at hx <;> try (cases hx; done)
  rename_i x hxa
  split at hx <;> try (cases hx; done)
  rename_i y hxb
  simp only [Option.some.injEq] at hx
  subst hx
  obtain ⟨c, d, e, l1, l2, h1, h2⟩ := hc
  exact ⟨_, _, c, d, rfl, e, l1, l2, strOf_sound a _ c x h1 hxa, strOf_sound b _ d y h2 hxb⟩
 | .sub id p lo hi, t, cs, T, hc, hx => by cases t <;> simp [strOf] at hx
 | .dead, t, cs, T, hc, hx => by cases t <;> simp [strOf] at hx
 | .addr _ _, t, cs, T, hc, hx => by cases t <;> simp [strOf] at hx
 | .saddr _, t, cs, T, hc, hx => by cases t <;> simp [strOf] at hx
 | .fn _, t, cs, T, hc, hx => by cases t <;> simp [strOf] at hx
 | .nilfn, t, cs, T, hc, hx => by cases t <;> simp [strOf] at hx
 | .tup _, t, cs, T, hc, hx => by cases t <;> simp [strOf] at hx
 | .tad _, t, cs, T, hc, hx => by cases t <;> simp [strOf] at hx
theorem argOf_sound (h : R g0 w0 N s g a w) (hh : s.hole = none) (hL : ∀ id ∈ lent, id ∉ L) {A : TV} {mv : Value} {want : Option Ty} {mode : Nat} {x : Arg} {le : List Id} (hA : TRep g w s.sig A mv) (hx : argOf L s want mode A = some (x, le)) (hle : ∀ id ∈ le, id ∈ lent) (i : Nat) :
  ArgRep (g.call L lent) w i x mv := by
 have look : ∀ t v, s.look t A = some v → s.fits t A = true → (∀ id ∈ rootsOf A, id ∈ lent) → ArgRep (g.call L lent) w i (.val v) mv := by
  intro t v h1 h2 h3
  obtain ⟨cs, c1, c2⟩ := hA.fits h2
  obtain ⟨e, k⟩ := look_free h hh hL A t cs v c1 h1 h3
  exact ⟨cs, k, by rw [e]; exact c2⟩
 have addr : ∀ (id : Id) (o : Ob) (n : Nat), A = .addr id [] → s.obj id = some o → (∀ m t xs, o ≠ .vec m t xs) → placeOf L id = some n → ArgRep (g.call L lent) w i (.adr n) mv := by
  rintro id o n rfl ho hv hn
  obtain ⟨ad, e1, e2⟩ := hA
  have e2 := e2 o.sig (by simp [St.sig, ho])
  have e3 : ad = g.base id := by
   cases o with
   | vec m t xs => exact absurd rfl (hv _ _ _)
   | box m v => simpa [Ob.sig, AddrRoot, AddrOf] using e2
   | fbox f => exact e2.2
  show mv = _
  rw [e1, e3, call_base (placeOf_some hn)]
 unfold argOf at hx
 split at hx
 · rename_i id
   split at hx
   · rename_i m v ho
     split at hx
     · simp only [Option.some.injEq, Prod.mk.injEq] at hx
       obtain ⟨rfl, rfl⟩ := hx
       obtain ⟨ad, e1, e2⟩ := hA
       have e2 := e2 (.box v.t) (by simp [St.sig, ho]; rfl)
       have e3 : ad = g.base id := by simpa [AddrRoot, AddrOf] using e2
       subst e3
       obtain ⟨cs, c, e, h1, h2, h3, h4, h5⟩ := h.objs id _ ho
       have hid := hle id (by simp)
       rw [St.hl, hh] at h5
       refine ⟨g.base id, cs, e1, h1, .inr (call_cell (hL id hid) h2), block_lt h3, h4, ?_⟩
       exact ORep.free call_le _ _ _ _ _ ⟨fun b q e => ⟨rfl, call_lent hid (hL id hid) (by simpa using e)⟩, fun q => by simp⟩ h5
     · split at hx <;> try (cases hx; done)
       rename_i n hn
       simp only [Option.some.injEq, Prod.mk.injEq] at hx
       obtain ⟨rfl, rfl⟩ := hx
       exact addr id _ n rfl ho (by simp) hn
   · rename_i f ho
     split at hx <;> try (cases hx; done)
     rename_i n hn
     simp only [Option.some.injEq, Prod.mk.injEq] at hx
     obtain ⟨rfl, rfl⟩ := hx
     exact addr id _ n rfl ho (by simp) hn
   · cases hx
 · rename_i v
   simp only [Option.some.injEq, Prod.mk.injEq] at hx
   obtain ⟨rfl, rfl⟩ := hx
   exact TRep1.le (sg := s.sig) (sg' := fun _ => none) call_le (.saddr v) mv (fun id hid => by simp [TV.looks] at hid) hA
 · rename_i f
   split at hx <;> try (cases hx; done)
   rename_i ns hns
   simp only [Option.some.injEq, Prod.mk.injEq] at hx
   obtain ⟨rfl, rfl⟩ := hx
   have hA : mv = FnVal g f := hA
   show mv = _
   rw [hA]
   simp only [FnVal, placesOf_some (g := g) (lent := lent) _ _ hns]
 · simp only [Option.some.injEq, Prod.mk.injEq] at hx
   obtain ⟨rfl, rfl⟩ := hx
   exact hA
 · split at hx <;> try (cases hx; done)
   rename_i t
   split at hx
   · split at hx <;> try (cases hx; done)
     · rename_i id _
       split at hx <;> try (cases hx; done)
       rename_i m u xs ho
       split at hx <;> try (cases hx; done)
       rename_i n hn
       simp only [Option.some.injEq, Prod.mk.injEq] at hx
       obtain ⟨rfl, rfl⟩ := hx
       obtain ⟨e1, _⟩ := TRep.ref hA
       show mv = _
       rw [e1, call_hdr (placeOf_some hn)]
     · rename_i a b _ _ _ _
       split at hx <;> try (cases hx; done)
       rename_i T hT
       cases hf : s.fits t (.pr a b)
       · simp [hf] at hx
       · simp only [hf, cond_true, Option.some.injEq, Prod.mk.injEq] at hx
         obtain ⟨rfl, rfl⟩ := hx
         obtain ⟨cs, c1, c2⟩ := hA.fits hf
         exact ⟨t, cs, strOf_sound _ _ _ _ c1 hT, c2⟩
   · split at hx <;> try (cases hx; done)
     rename_i v hv
     cases hf : s.fits t A
     · simp [hf] at hx
     · simp only [hf, cond_true, Option.some.injEq, Prod.mk.injEq] at hx
       obtain ⟨rfl, rfl⟩ := hx
       exact look t v hv hf hle
theorem argsOf_sound {tab : Tab} {mode : Nat → Nat} {ts : List TypeId} (h : R g0 w0 N s g a w) (hh : s.hole = none) (hL : ∀ id ∈ lent, id ∉ L) : ∀ (As : List TV) (n : Nat) (tk : List (Option (Mask × Val))) (vals : List Value) (as : List Arg) (le : List Id),
  argsOf tab mode ts L s n As tk = some (as, le) → All2 (TRep g w s.sig) As vals → TakenRep g w n tk vals → (∀ id ∈ le, id ∈ lent) → ArgsRep (g.call L lent) w n as vals
 | [], n, [], vals, as, le, hx, hA, hT, hle => by
  simp only [argsOf, Option.some.injEq, Prod.mk.injEq] at hx
  obtain ⟨rfl, rfl⟩ := hx
  cases vals with
  | nil => trivial
  | cons _ _ => exact hA.elim
 | A :: As, n, some (m, v) :: tk, mv :: vals, as, le, hx, ⟨hA1, hA2⟩, ⟨hT1, hT2⟩, hle => by
  simp only [argsOf] at hx
  split at hx <;> try (cases hx; done)
  rename_i xs le' hrec
  simp only [Option.some.injEq, Prod.mk.injEq] at hx
  obtain ⟨rfl, rfl⟩ := hx
  refine ⟨?_, argsOf_sound h hh hL As (n + 1) tk vals xs le' hrec hA2 hT2 hle⟩
  obtain ⟨cs, k1, k2⟩ := hT1 m v rfl
  exact ⟨cs, ORep.move call_le _ _ _ _ _ _ ⟨fun z => rfl, fun b z e => ⟨rfl, call_float e⟩, fun _ => Iff.rfl⟩ k1, k2⟩
 | A :: As, n, none :: tk, mv :: vals, as, le, hx, ⟨hA1, hA2⟩, ⟨hT1, hT2⟩, hle => by
  simp only [argsOf] at hx
  split at hx <;> try (cases hx; done)
  rename_i x le1 h1
  split at hx <;> try (cases hx; done)
  rename_i xs le2 hrec
  simp only [Option.some.injEq, Prod.mk.injEq] at hx
  obtain ⟨rfl, rfl⟩ := hx
  exact ⟨argOf_sound h hh hL hA1 h1 (fun id hi => hle id (by simp [hi])) n, argsOf_sound h hh hL As (n + 1) tk vals xs le2 hrec hA2 hT2 (fun id hi => hle id (by simp [hi]))⟩
 | [], n, _ :: _, vals, as, le, hx, hA, hT, hle => by simp [argsOf] at hx
 | A :: As, n, [], vals, as, le, hx, hA, hT, hle => by simp [argsOf] at hx
theorem obsOf_sound (h : R g0 w0 N s g a w) (hh : s.hole = none) (hn : L.Nodup) : ∀ (l : List Id) (os : List Ob), obsOf s L l = some os → os.length = l.length ∧ ∀ (k : Nat) (o : Ob), os[k]? = some o → ∃ id b, l[k]? = some id ∧ s.obj id = some b ∧ o.sig = b.sig ∧
  ∀ j, L[j]? = some id → RootRep (g.call L lent) w none (extId j) o
 | [], os, ho => by
  simp only [obsOf, Option.some.injEq] at ho
  subst ho
  exact ⟨rfl, fun k o e => by simp at e⟩
 | id :: l, os, ho => by
  simp only [obsOf] at ho
  split at ho <;> try (cases ho; done)
  rename_i o1 h1
  split at ho <;> try (cases ho; done)
  rename_i os' h2
  simp only [Option.some.injEq] at ho
  subst ho
  obtain ⟨q1, q2⟩ := obsOf_sound h hh hn l os' h2
  refine ⟨by simp [q1], fun k o e => ?_⟩
  cases k with
  | succ k => simpa using q2 k o (by simpa using e)
  | zero =>
   simp only [List.getElem?_cons_zero, Option.some.injEq] at e
   subst e
   have base : ∀ b, s.obj id = some b → (o1 = b ∨ ∃ f f' : FnV, b = .fbox (some f) ∧ o1 = .fbox (some f') ∧ FnVal (g.call L lent) f' = FnVal g f) → (∀ f, b = .fbox (some f) → ∃ f', o1 = .fbox (some f') ∧ FnVal (g.call L lent) f' = FnVal g f) → o1.sig = b.sig →
    ∃ id' b, (id :: l)[0]? = some id' ∧ s.obj id' = some b ∧ o1.sig = b.sig ∧ ∀ j, L[j]? = some id' → RootRep (g.call L lent) w none (extId j) o1 := by
    intro b hb he hf hs
    refine ⟨id, b, rfl, hb, hs, fun j hj => ?_⟩
    have hob := h.objs id b hb
    rw [St.hl, hh] at hob
    exact RootRep.carry (.inr ⟨Nat.le_refl _, call_le.keep⟩) (fun r => call_hdr hj r) (call_base hj) (fun b r e => ⟨rfl, call_own hn hj e⟩) he hf hob
   unfold obOf at h1
   split at h1
   · rename_i f hf
     split at h1 <;> try (cases h1; done)
     rename_i ns hns
     simp only [Option.some.injEq] at h1
     subst h1
     have hv : FnVal (g.call L lent) ⟨f.f, ns.map extId⟩ = FnVal g f := by simp only [FnVal, placesOf_some (g := g) (lent := lent) _ _ hns]
     exact base _ hf (.inr ⟨f, _, rfl, rfl, hv⟩) (fun f' e => by injection e with e; injection e with e; subst e; exact ⟨_, rfl, hv⟩) rfl
   · rename_i hno
     exact base o1 h1 (.inl rfl) (fun f e => absurd (by rw [h1, e]) (hno f)) rfl
end
end Go.Ve
namespace Go.Ve
open Go Go.RowKit
def _root_.Go.Ve.Gh.frz (g : Gh) (id : Id) : Gh := { g with own := fun b => match g.own b with
 | some (some i, some r) => if i = id then none else some (some i, some r)
 | o => o }
section
variable {P : Program} {g0 : Gh} {w0 : Fra} {N : Nat} {s : St} {g : Gh} {a : Act} {w : World} {α : Type} {r : α} {Q : Exit → Act → World → Prop} {L lent : List Id}
theorem frz_le {id : Id} : Le g w (g.frz id) w := ⟨rfl, rfl, rfl, Nat.le_refl _, fun b _ h => ⟨rfl, by simp [Gh.frz, h]⟩, fun b _ h => ⟨rfl, by simp [Gh.frz, h]⟩⟩
theorem frz_same {id i : Id} (h : i ≠ id) : Same g w (g.frz id) w (some i) := ⟨fun _ => rfl, fun _ _ => rfl, fun b r e => ⟨rfl, by
 cases r with
 | none => simp [Gh.frz, e]
 | some r => simp [Gh.frz, e, h]⟩⟩
theorem frz_lives {id : Id} (h : ∀ b o, g.own b = some o → b < w.heap.size) : ∀ b o, (g.frz id).own b = some o → b < w.heap.size := by
 intro b o e
 cases k : g.own b with
 | none => simp [Gh.frz, k] at e
 | some o' => exact h b o' k
theorem freeze_val {id : Id} {t : Ty} {xs : List t.den} {m : Mask} (h : R g0 w0 N s g a w) (ho : s.obj id = some (.vec m t xs)) (hf : s.hole = none) : SRep (g.frz id) w (.list t) xs [g.hdr (some id) []] := by
 have hob := h.objs id _ ho
 rw [St.hl, hf] at hob
 have : ORep g w none (some id) (.list t) (.own m) [] xs [g.hdr (some id) []] := .inr ⟨by simp, rfl, hob⟩
 exact ORep.free frz_le _ _ _ _ _ ⟨fun b q e => ⟨rfl, by simp at e; simp [Gh.frz, e]⟩, fun q => by simp⟩ this
theorem freeze_rep {id : Id} {t : Ty} {xs : List t.den} (hs : SRep (g.frz id) w (.list t) xs [g.hdr (some id) []]) {sg sg' : Id → Option Sig} (hsig : sg id = some (.vec t)) (hsg : ∀ i, i ≠ id → ∀ x, sg' i = some x → sg i = some x) :
  ∀ (A : TV) (u : Ty) (cs : List Value), TC g w sg A u cs → TC (g.frz id) w sg' (freezeTV id ⟨.list t, xs⟩ A) u cs
 | .ref i p, u, cs, hc => by
  simp only [freezeTV]
  cases hi : sameId i id
  · have hne : i ≠ id := fun e => by rw [sameId_eq.2 e] at hi; cases hi
    exact TC.le (sg := sg) frz_le (.ref i p) _ _ (fun j hj => by
     simp only [TV.looks, Bool.not_false, Bool.true_or, Bool.and_true] at hj
     rw [← sameId_eq.1 hj]
     exact ⟨fun _ => rfl, rfl, hsg i hne⟩) hc
  · have := sameId_eq.1 hi
    subst this
    simp only [cond_true]
    cases u <;> simp only [TC] at hc
    obtain ⟨rfl, h2⟩ := hc
    cases p with
    | cons _ _ => exact TC.dead rfl
    | nil =>
     have := (h2 _ hsig).1
     simp only [Sig.ty, tyAt, Option.some.injEq] at this
     injection this with this
     subst this
     exact ⟨rfl, hs⟩
 | .sub i p lo hi, u, cs, hc => by
  simp only [freezeTV]
  cases hi' : sameId i id
  · have hne : i ≠ id := fun e => by rw [sameId_eq.2 e] at hi'; cases hi'
    exact TC.le (sg := sg) frz_le (.sub i p lo hi) _ _ (fun j hj => by
     simp only [TV.looks, Bool.not_false, Bool.true_or, Bool.and_true] at hj
     rw [← sameId_eq.1 hj]
     exact ⟨fun _ => rfl, rfl, hsg i hne⟩) hc
  · exact TC.dead hc.len
 | .pr x y, u, cs, hc => by
  simp only [freezeTV]
  cases u <;> simp only [TC] at hc
  cases hl : (x.looks false id || y.looks false id)
  · simp only [cond_false]
    simp only [Bool.or_eq_false_iff] at hl
    refine TC.le (sg := sg) frz_le (.pr x y) (.prod _ _) _ (fun j hj => ?_) hc
    refine ⟨fun _ => rfl, rfl, hsg j ?_⟩
    rintro rfl
    simp only [TV.looks, hl.1, hl.2, Bool.or_self] at hj
    cases hj
  · simp only [cond_true]
    obtain ⟨c, d, rfl, l1, l2, h1, h2⟩ := hc
    exact TC.mkpr (freeze_rep hs hsig hsg x _ _ h1) (freeze_rep hs hsig hsg y _ _ h2) l1 l2
 | .val v, u, cs, hc => TC.le (sg := sg) frz_le (.val v) _ _ (fun j hj => by simp [TV.looks] at hj) hc
 | .nil, u, cs, hc => TC.le (sg := sg) frz_le .nil _ _ (fun j hj => by simp [TV.looks] at hj) hc
 | .dead, u, cs, hc => TC.dead hc.len
 | .addr i p, u, cs, hc => by cases u <;> exact hc.elim
 | .saddr v, u, cs, hc => by cases u <;> exact hc.elim
 | .fn f, u, cs, hc => by cases u <;> exact hc.elim
 | .nilfn, u, cs, hc => by cases u <;> exact hc.elim
 | .tup l, u, cs, hc => by cases u <;> exact hc.elim
 | .tad A, u, cs, hc => by cases u <;> exact hc.elim
theorem freeze_trep {id : Id} {t : Ty} {xs : List t.den} (hs : SRep (g.frz id) w (.list t) xs [g.hdr (some id) []]) {sg sg' : Id → Option Sig} (hsig : sg id = some (.vec t)) (hsg : ∀ i, i ≠ id → ∀ x, sg' i = some x → sg i = some x) {A : TV} {mv : Value} (hA : TRep g w sg A mv) :
  TRep (g.frz id) w sg' (freezeTV id ⟨.list t, xs⟩ A) mv := by
 have plain : A.looks false id = false → TRep (g.frz id) w sg' A mv := fun hl => TRep.le frz_le _ _ (fun i hi => ⟨fun _ => rfl, rfl, hsg i (by rintro rfl; rw [hl] at hi; cases hi)⟩) hA
 have split : ∀ B : TV, freezeTV id ⟨.list t, xs⟩ A = (bif B.looks false id then .dead else B) → B = A → TRep (g.frz id) w sg' (freezeTV id ⟨.list t, xs⟩ A) mv := by
  rintro B e rfl
  rw [e]
  cases hl : B.looks false id
  · exact plain hl
  · trivial
 have data : (∃ u cs, TC g w sg A u cs ∧ mv = wrap u cs) → TRep (g.frz id) w sg' (freezeTV id ⟨.list t, xs⟩ A) mv := by
  rintro ⟨u, cs, h1, h2⟩
  rw [h2]
  exact (freeze_rep hs hsig hsg A u cs h1).rep
 cases A with
 | ref i p => exact data hA
 | sub i p lo hi => exact data hA
 | pr x y => exact data hA
 | val v => exact split (.val v) rfl rfl
 | nil => exact split .nil rfl rfl
 | dead => trivial
 | addr i p =>
  simp only [freezeTV]
  cases hi : sameId i id
  · exact plain (by simp [TV.looks, hi])
  · trivial
 | saddr v => exact split (.saddr v) rfl rfl
 | tad A => exact split (.tad A) rfl rfl
 | fn f => exact split (.fn f) rfl rfl
 | nilfn => exact split .nilfn rfl rfl
 | tup l =>
  simp only [freezeTV]
  cases hl : TV.looks.looksAny false id l
  · exact plain (by simpa [TV.looks] using hl)
  · trivial
theorem frz_rep {sg : Id → Option Sig} {id : Id} {A : TV} {mv : Value} (h : TRep g w sg A mv) : TRep (g.frz id) w sg A mv := TRep.le frz_le _ _ (fun i _ => ⟨fun _ => rfl, rfl, fun _ e => e⟩) h
theorem freezeB_rep (h : R g0 w0 N s g a w) (hh : s.hole = none) {id : Id} {m : Mask} {v : Val} (ho : s.obj id = some (.box m v)) : ∀ (A : TV) (u : Ty) (cs : List Value), TC g w s.sig A u cs → TC (g.frz id) w s.sig (freezeB id m v A) u cs
 | .ref i p, u, cs, hc => by
  simp only [freezeB]
  cases hi : sameId i id
  · exact TC.le (sg := s.sig) frz_le (.ref i p) _ _ (fun j hj => ⟨fun _ => rfl, rfl, fun _ e => e⟩) hc
  · have := sameId_eq.1 hi
    subst this
    simp only [cond_true]
    split
    · rename_i m' t xs hget
      cases u <;> simp only [TC] at hc
      rename_i u
      obtain ⟨rfl, h2⟩ := hc
      have hsg : s.sig i = some (.box v.t) := by simp [St.sig, ho, Ob.sig]
      obtain ⟨k1, k2⟩ := h2 _ hsg
      obtain ⟨ad, had⟩ := k2.resolve_left (fun ⟨_, u, e⟩ => by cases e)
      have hat : s.at i p = some (.own m', ⟨.list t, xs⟩) := by simp [St.at, ho, Ob.root, hget]
      obtain ⟨_, _, _, ds, _, r5, r6⟩ := h.place hh hat (ad := ad) (fun sg hs => by rw [hsg] at hs; injection hs with hs; subst hs; exact had)
      have ht := r6 _ hsg
      rw [k1] at ht
      injection ht with ht
      injection ht with ht
      subst ht
      have hds : ds = [g.hdr (some i) p] := by
       rcases r5 with ⟨k, _⟩ | ⟨_, k, _⟩
       · cases k
       · exact k
      rw [hds] at r5
      exact ⟨rfl, ORep.free frz_le _ _ _ _ _ ⟨fun b q e => ⟨rfl, by simp [Gh.frz, e]⟩, fun q => by simp⟩ r5⟩
    · exact TC.dead hc.len
 | .sub i p lo hi, u, cs, hc => by
  simp only [freezeB]
  cases TV.sees true id (.sub i p lo hi)
  · exact TC.le (sg := s.sig) frz_le (.sub i p lo hi) _ _ (fun j hj => ⟨fun _ => rfl, rfl, fun _ e => e⟩) hc
  · exact TC.dead hc.len
 | .pr x y, u, cs, hc => by
  simp only [freezeB]
  cases hl : (x.sees true id || y.sees true id)
  · exact TC.le (sg := s.sig) frz_le (.pr x y) _ _ (fun j hj => ⟨fun _ => rfl, rfl, fun _ e => e⟩) hc
  · simp only [cond_true]
    cases u <;> simp only [TC] at hc
    obtain ⟨c, d, rfl, l1, l2, h1, h2⟩ := hc
    exact TC.mkpr (freezeB_rep h hh ho x _ _ h1) (freezeB_rep h hh ho y _ _ h2) l1 l2
 | .val v, u, cs, hc => TC.le (sg := s.sig) frz_le (.val v) _ _ (fun j hj => by simp [TV.looks] at hj) hc
 | .nil, u, cs, hc => TC.le (sg := s.sig) frz_le .nil _ _ (fun j hj => by simp [TV.looks] at hj) hc
 | .dead, u, cs, hc => TC.dead hc.len
 | .addr i p, u, cs, hc => by cases u <;> exact hc.elim
 | .saddr v, u, cs, hc => by cases u <;> exact hc.elim
 | .fn f, u, cs, hc => by cases u <;> exact hc.elim
 | .nilfn, u, cs, hc => by cases u <;> exact hc.elim
 | .tup l, u, cs, hc => by cases u <;> exact hc.elim
 | .tad A, u, cs, hc => by cases u <;> exact hc.elim
theorem freezeB_trep (h : R g0 w0 N s g a w) (hh : s.hole = none) {id : Id} {m : Mask} {v : Val} (ho : s.obj id = some (.box m v)) {A : TV} {mv : Value} (hA : TRep g w s.sig A mv) : TRep (g.frz id) w s.sig (freezeB id m v A) mv := by
 have split : ∀ B : TV, freezeB id m v A = (bif B.sees true id then .dead else B) → B = A → TRep (g.frz id) w s.sig (freezeB id m v A) mv := by
  rintro B e rfl
  rw [e]
  cases hl : B.sees true id
  · exact frz_rep hA
  · trivial
 have data : (∃ u cs, TC g w s.sig A u cs ∧ mv = wrap u cs) → TRep (g.frz id) w s.sig (freezeB id m v A) mv := by
  rintro ⟨u, cs, h1, h2⟩
  rw [h2]
  exact (freezeB_rep h hh ho A u cs h1).rep
 cases A with
 | ref i p => exact data hA
 | sub i p lo hi => exact data hA
 | pr x y => exact data hA
 | addr i p => exact frz_rep hA
 | val v => exact split (.val v) rfl rfl
 | nil => exact split .nil rfl rfl
 | dead => trivial
 | saddr v => exact split (.saddr v) rfl rfl
 | tad A => exact split (.tad A) rfl rfl
 | fn f => exact split (.fn f) rfl rfl
 | nilfn => exact split .nilfn rfl rfl
 | tup l => exact split (.tup l) rfl rfl
theorem R.freeze (h : R g0 w0 N s g a w) (hh : s.hole = none) (id : Id) : R g0 w0 N (s.freeze id) (g.frz id) a w ∧ (s.freeze id).hole = none ∧ ∀ i, i ≠ id → (s.freeze id).obj i = s.obj i := by
 have same : ∀ i o, i ≠ id → s.obj i = some o → RootRep (g.frz id) w none i o := fun i o hi e => by
  have hob := h.objs i o e
  rw [St.hl, hh] at hob
  exact RootRep.same frz_le (frz_same hi) (fun _ => Iff.rfl) o (fun _ _ _ _ => rfl) hob
 have stay : (∀ o, s.obj id = some o → RootRep (g.frz id) w none id o) → R g0 w0 N s (g.frz id) a w := fun hid => {
  frame := h.frame.trans frz_le
  tmps := fun t => TRep.le frz_le _ _ (fun i _ => ⟨fun _ => rfl, rfl, fun _ e => e⟩) (h.tmps t)
  objs := fun i o e => by
   rw [St.hl, hh]
   by_cases hi : i = id
   · subst hi; exact hid o e
   · exact same i o hi e
  lives := frz_lives h.lives
  defers := h.defers
  size := h.size
  small := h.small
  ext := h.ext }
 unfold St.freeze
 split
 · rename_i m t xs ho
   have hobj : ∀ i, updI s.obj id none i = if i = id then none else s.obj i := fun i => by
    by_cases hi : i = id
    · subst hi; rw [updI_same, if_pos rfl]
    · rw [updI_ne _ _ hi, if_neg hi]
   refine ⟨{
    frame := h.frame.trans frz_le
    tmps := fun u => freeze_trep (freeze_val h ho hh) (sg := s.sig) (by simp [St.sig, ho]; rfl) (fun i hi x e => by
     simp only [St.sig, hobj, if_neg hi] at e ⊢
     exact e) (h.tmps u)
    objs := fun i o e => by
     have e : updI s.obj id none i = some o := e
     rw [hobj] at e
     by_cases hi : i = id
     · rw [if_pos hi] at e; cases e
     · rw [if_neg hi] at e
       show RootRep (g.frz id) w s.hl i o
       rw [St.hl, hh]
       exact same i o hi e
    lives := frz_lives h.lives
    defers := h.defers
    size := h.size
    small := h.small
    ext := fun i o e hi => by
     have e : updI s.obj id none i = some o := e
     rw [hobj] at e
     by_cases hi' : i = id
     · rw [if_pos hi'] at e; cases e
     · rw [if_neg hi'] at e
       exact h.ext i o e hi }, hh, fun i hi => by show updI s.obj id none i = _; rw [hobj, if_neg hi]⟩
 · rename_i m v ho
   have hr : RootRep (g.frz id) w none id (.box .shr v) := by
    have hob := h.objs id _ ho
    rw [St.hl, hh] at hob
    obtain ⟨cs, c, e, h1, h2, h3, h4, h5⟩ := hob
    exact ⟨cs, c, e, h1, by simp only [Gh.frz]; rw [h2], h3, h4, ORep.shr.2 (ORep.free frz_le _ _ _ _ _ ⟨fun b q e => ⟨rfl, by simp at e; simp [Gh.frz, e]⟩, fun q => by simp⟩ h5)⟩
   have hobj : ∀ i, updI s.obj id (some (.box .shr v)) i = if i = id then some (.box .shr v) else s.obj i := fun i => by
    by_cases hi : i = id
    · subst hi; rw [updI_same, if_pos rfl]
    · rw [updI_ne _ _ hi, if_neg hi]
   refine ⟨{
    frame := h.frame.trans frz_le
    tmps := fun u => by
     have hsig : ∀ tm : Nat → TV, ({ s with tmp := tm, obj := updI s.obj id (some (.box .shr v)) } : St).sig = s.sig := fun tm => funext fun i => by
      simp only [St.sig, hobj]
      by_cases hi : i = id
      · subst hi; simp [ho, Ob.sig]
      · rw [if_neg hi]
     rw [hsig]
     exact freezeB_trep h hh ho (h.tmps u)
    objs := fun i o e => by
     have e : updI s.obj id (some (.box .shr v)) i = some o := e
     rw [hobj] at e
     show RootRep (g.frz id) w s.hl i o
     rw [St.hl, hh]
     by_cases hi : i = id
     · rw [if_pos hi] at e; injection e with e; subst e; subst hi; exact hr
     · rw [if_neg hi] at e; exact same i o hi e
    lives := frz_lives h.lives
    defers := h.defers
    size := h.size
    small := h.small
    ext := fun i o e hi => by
     have e : updI s.obj id (some (.box .shr v)) i = some o := e
     rw [hobj] at e
     by_cases hi' : i = id
     · rw [if_pos hi'] at e; injection e with e; subst e; subst hi'
       have := h.ext i _ ho hi
       exact ⟨this.1, fun ⟨u, hu⟩ => by cases hu⟩
     · rw [if_neg hi'] at e
       exact h.ext i o e hi }, hh, fun i hi => by show updI s.obj id _ i = _; rw [hobj, if_neg hi]⟩
 · rename_i hv hb
   refine ⟨stay fun o e => ?_, hh, fun _ _ => rfl⟩
   cases o with
   | vec m t xs => exact absurd e (hv m t xs)
   | box m v => exact absurd e (hb m v)
   | fbox f =>
    have hob := h.objs id _ e
    obtain ⟨h1, h2, h3, h4⟩ := hob
    exact ⟨h1, by simp only [Gh.frz]; rw [h2], h3, h4⟩
def _root_.Go.Ve.Gh.frzs (g : Gh) (l : List Id) : Gh := l.foldl Gh.frz g
theorem R.freezes : ∀ (l : List Id) {s : St} {g : Gh}, R g0 w0 N s g a w → s.hole = none → R g0 w0 N (freezeIds l s) (g.frzs l) a w ∧ (freezeIds l s).hole = none ∧ ∀ i, i ∉ l → (freezeIds l s).obj i = s.obj i
 | [], s, g, h, hh => ⟨h, hh, fun _ _ => rfl⟩
 | id :: l, s, g, h, hh => by
  obtain ⟨k1, k2, k3⟩ := h.freeze hh id
  obtain ⟨q1, q2, q3⟩ := R.freezes l k1 k2
  exact ⟨q1, q2, fun i hi => by
   simp only [List.mem_cons, not_or] at hi
   exact (q3 i hi.2).trans (k3 i hi.1)⟩
theorem frzs_hdr : ∀ (l : List Id) (g : Gh), (g.frzs l).hdr = g.hdr ∧ (g.frzs l).base = g.base
 | [], g => ⟨rfl, rfl⟩
 | id :: l, g => frzs_hdr l (g.frz id)
theorem frzs_own : ∀ (l : List Id) (g : Gh) (b : Nat), (g.frzs l).own b = match g.own b with
  | some (some i, some r) => if i ∈ l then none else some (some i, some r)
  | o => o
 | [], g, b => by
  show g.own b = _
  split <;> simp_all
 | id :: l, g, b => by
  show ((g.frz id).frzs l).own b = _
  rw [frzs_own l (g.frz id) b]
  simp only [Gh.frz]
  cases g.own b with
  | none => rfl
  | some o =>
   obtain ⟨i, r⟩ := o
   cases i with
   | none => cases r <;> rfl
   | some i =>
    cases r with
    | none => rfl
    | some r =>
     by_cases hi : i = id
     · simp [hi]
     · simp [hi]
end
end Go.Ve
namespace Go.Ve
open Go Go.RowKit
def backOwn (L : List Id) : Option (RId × Option (List Step)) → Option (RId × Option (List Step))
 | some (some i, r) => match backId L i with
  | some j => some (some j, r)
  | none => none
 | some (none, r) => some (none, r)
 | none => none
def _root_.Go.Ve.Gh.behind (gP g' : Gh) (L : List Id) (n : Nat) : Gh where
 hdr i r := match i with
  | none => g'.hdr none r
  | some id => match placeOf L id with
   | some k => g'.hdr (some (extId k)) r
   | none => gP.hdr (some id) r
 base := gP.base
 own b := if b < n then match gP.own b with
  | none => none
  | some (some id, r) => match placeOf L id with
   | none => some (some id, r)
   | some _ => backOwn L (g'.own b)
  | some (none, _) => backOwn L (g'.own b)
  else backOwn L (g'.own b)
structure View (gP gC : Gh) (L : List Id) (shared : Bool) : Prop where
 empty : ∀ b, gP.own b = none → gC.own b = none
 float : ∀ b r, gP.own b = some (none, r) → gC.own b = some (none, r)
 ext : ∀ b id r k, placeOf L id = some k → gP.own b = some (some id, r) → gC.own b = some (some (extId k), r)
 other : ∀ b id r, placeOf L id = none → gP.own b = some (some id, r) → gC.own b = some (none, none) ∨ (gC.own b = none ∧ shared = false)
 hdr : ∀ k id r, L[k]? = some id → gC.hdr (some (extId k)) r = gP.hdr (some id) r
 base : ∀ k id, L[k]? = some id → gC.base (extId k) = gP.base id
section
variable {P : Program} {g0 : Gh} {w0 : Fra} {N : Nat} {s : St} {g : Gh} {a : Act} {w : World} {α : Type} {r : α} {Q : Exit → Act → World → Prop} {L lent : List Id}
theorem place_none {id : Id} (h : id ∉ L) : placeOf L id = none := by
 cases e : placeOf L id with
 | none => rfl
 | some k => exact absurd (List.mem_of_getElem? (placeOf_some e)) h
theorem view_plain (hn : L.Nodup) : View g (g.call L lent) L false where
 empty b h := by simp [Gh.call, h]
 float b r h := by simp [Gh.call, h]
 ext b id r k hk h := by simp [Gh.call, h, hk]
 other b id r hk h := by
  by_cases hc : id ∈ lent ∧ r ≠ none
  · exact .inr ⟨by simp [Gh.call, h, hk, hc], rfl⟩
  · exact .inl (by simp only [Gh.call, h, hk]; rw [if_neg hc])
 hdr k id r hk := call_hdr hk r
 base k id hk := call_base hk
theorem view_frozen (hn : L.Nodup) (hL : ∀ id ∈ lent, id ∉ L) : View (g.frzs lent) (g.call L lent) L true where
 empty b h := by
  rw [frzs_own] at h
  split at h
  · rename_i i r e
    split at h
    · rename_i hi
      exact call_lent hi (hL i hi) e
    · cases h
  · simp [Gh.call, h]
 float b r h := by
  rw [frzs_own] at h
  split at h
  · split at h
    · cases h
    · injection h with h; injection h with h; cases h
  · simp [Gh.call, h]
 ext b id r k hk h := by
  rw [frzs_own] at h
  split at h
  · rename_i i r' e
    split at h
    · cases h
    · injection h with h; injection h with h1 h2; injection h1 with h1; subst h1 h2; simp [Gh.call, e, hk]
  · simp [Gh.call, h, hk]
 other b id r hk h := by
  rw [frzs_own] at h
  split at h
  · rename_i i r' e
    split at h
    · cases h
    · rename_i hi
      injection h with h; injection h with h1 h2; injection h1 with h1; subst h1 h2
      exact .inl (by simp only [Gh.call, e, hk]; rw [if_neg (fun hc => hi hc.1)])
  · rename_i hne
    cases r with
    | none => exact .inl (by simp [Gh.call, h, hk])
    | some r => exact absurd h (hne _ _)
 hdr k id r hk := by rw [call_hdr hk, (frzs_hdr lent g).1]
 base k id hk := by rw [call_base hk, (frzs_hdr lent g).2]
variable {gP gC g' : Gh} {w' : World} {shared : Bool}
theorem behind_low (V : View gP gC L shared) (hl : Le gC w g' w') {b : Nat} (hb : b < w.heap.size) {id : Id} {r : Option (List Step)} (hp : placeOf L id = none) (h : gP.own b = some (some id, r)) :
  w'.heap[b]? = w.heap[b]? ∧ (g'.own b = some (none, none) ∨ (g'.own b = none ∧ shared = false)) := by
 rcases V.other b id r hp h with k | ⟨k, k'⟩
 · exact ⟨(hl.hid b hb k).1, .inl (hl.hid b hb k).2⟩
 · exact ⟨(hl.keep b hb k).1, .inr ⟨(hl.keep b hb k).2, k'⟩⟩
theorem behind_le (V : View gP gC L shared) (hl : Le gC w g' w') : Le gP w (gP.behind g' L w.heap.size) w' where
 os := hl.os
 tape := hl.tape
 output := hl.output
 size := hl.size
 keep b hb h := ⟨(hl.keep b hb (V.empty b h)).1, by simp [Gh.behind, hb, h]⟩
 hid b hb h := ⟨(hl.hid b hb (V.float b _ h)).1, by simp [Gh.behind, hb, h, (hl.hid b hb (V.float b _ h)).2, backOwn]⟩
theorem behind_same (V : View gP gC L shared) (hl : Le gC w g' w') (hlv : ∀ b o, gP.own b = some o → b < w.heap.size) {id : Id} (hp : placeOf L id = none) : Same gP w (gP.behind g' L w.heap.size) w' (some id) where
 hdr r := by simp [Gh.behind, hp]
 base _ _ := rfl
 own b r h := by
  have hb := hlv b _ h
  exact ⟨(behind_low V hl hb hp h).1, by simp [Gh.behind, hb, h, hp]⟩
theorem behind_own (V : View gP gC L shared) (hl : Le gC w g' w') {b : Nat} {i : RId} {r : Option (List Step)} (hi : ∀ x, i = some x → ∃ j, backId L x = some j) (hr : i = none → r ≠ none) (h : g'.own b = some (i, r)) : (gP.behind g' L w.heap.size).own b = backOwn L (g'.own b) := by
 simp only [Gh.behind]
 by_cases hb : b < w.heap.size
 · rw [if_pos hb]
   cases ho : gP.own b with
   | none =>
    have := (hl.keep b hb (V.empty b ho)).2
    rw [h] at this
    cases this
   | some o =>
    obtain ⟨i0, r0⟩ := o
    cases i0 with
    | none => rfl
    | some id =>
     cases hp : placeOf L id with
     | some k => simp [hp]
     | none =>
      exfalso
      rcases (behind_low V hl hb hp ho).2 with k | ⟨k, _⟩
      · rw [h] at k
        injection k with k
        injection k with k1 k2
        exact hr k1 k2
      · rw [h] at k; cases k
 · rw [if_neg hb]
theorem behind_ext (V : View gP gC L shared) (hl : Le gC w g' w') {b k : Nat} {id : Id} {r : Option (List Step)} (hk : L[k]? = some id) (h : g'.own b = some (some (extId k), r)) : (gP.behind g' L w.heap.size).own b = some (some id, r) := by
 rw [behind_own V hl (i := some (extId k)) (fun x e => by injection e with e; subst e; exact ⟨id, by rw [backId_ext, hk]⟩) (fun e => by cases e) h, h]
 simp [backOwn, backId_ext, hk]
theorem behind_float (V : View gP gC L shared) (hl : Le gC w g' w') {b : Nat} {r : List Step} (h : g'.own b = some (none, some r)) : (gP.behind g' L w.heap.size).own b = some (none, some r) := by
 rw [behind_own V hl (i := none) (fun x e => by cases e) (fun _ => by simp) h, h]
 rfl
theorem behind_keeps (V : View gP gC L shared) (hl : Le gC w g' w') (hs : shared = true) : Keeps g' w' (gP.behind g' L w.heap.size) w' := by
 refine ⟨Nat.le_refl _, fun b _ h => ⟨rfl, ?_⟩⟩
 simp only [Gh.behind]
 by_cases hb : b < w.heap.size
 · rw [if_pos hb]
   cases ho : gP.own b with
   | none => rfl
   | some o =>
    obtain ⟨i0, r0⟩ := o
    cases i0 with
    | none => simp [h, backOwn]
    | some id =>
     cases hp : placeOf L id with
     | some k => simp [h, hp, backOwn]
     | none =>
      exfalso
      rcases (behind_low V hl hb hp ho).2 with k | ⟨_, k⟩
      · rw [h] at k; cases k
      · rw [hs] at k; cases k
 · rw [if_neg hb, h]
   rfl
theorem behind_lives (hl : Le gC w g' w') (hlv : ∀ b o, g'.own b = some o → b < w'.heap.size) : ∀ b o, (gP.behind g' L w.heap.size).own b = some o → b < w'.heap.size := by
 intro b o h
 by_cases hb : b < w.heap.size
 · exact Nat.lt_of_lt_of_le hb hl.size
 · simp only [Gh.behind, if_neg hb] at h
   cases k : g'.own b with
   | none => rw [k] at h; cases h
   | some o' => exact hlv b o' k
theorem behind_hdr {k n : Nat} {id : Id} (hn : L.Nodup) (hk : L[k]? = some id) (r : List Step) : (gP.behind g' L n).hdr (some id) r = g'.hdr (some (extId k)) r := by simp [Gh.behind, placeOf_at hn hk]
def Unseen (g g' : Gh) (sg sg' : Id → Option Sig) (v : TV) (i : Id) : Prop := Fits g g' sg sg' i ∨
 (g'.base i = g.base i ∧ (∀ x, sg' i = some x → sg i = some x) ∧ ∃ root, (root = false → g'.hdr (some i) [] = g.hdr (some i) []) ∧ (root = true → ∀ x, sg i = some x → ∀ u, x ≠ .vec u) ∧ v.sees root i = false)
theorem Unseen.ref {g g' : Gh} {sg sg' : Id → Option Sig} {v : TV} {i : Id} {p : List Step} (h : Unseen g g' sg sg' v i) (hv : ∀ root, v.sees root i = false → root = false ∧ p = []) :
  g'.hdr (some i) p = g.hdr (some i) p ∧ ∀ x, sg' i = some x → sg i = some x ∧ (RefAt g i x p → RefAt g' i x p) := by
 rcases h with h | ⟨hb, hs, root, h1, h2, h3⟩
 · exact ⟨h.hdr p, fun x e => ⟨h.sig x e, fun k => k.congr h.hdr h.base⟩⟩
 · obtain ⟨rfl, rfl⟩ := hv root h3
   refine ⟨h1 rfl, fun x e => ⟨hs x e, fun k => ?_⟩⟩
   rcases k with k | ⟨c, k⟩
   · exact .inl k
   · refine .inr ⟨c, ?_⟩
     cases x with
     | vec u => exact absurd rfl k.1
     | box u => simpa [AddrRoot, AddrOf, hb] using k
     | fbox => simpa [AddrRoot, hb] using k
theorem TC.multi {g g' : Gh} {w w' : World} {sg sg' : Id → Option Sig} (hl : Le g w g' w') : ∀ (v : TV) (t : Ty) (cs : List Value), (∀ i, Unseen g g' sg sg' v i) → TC g w sg v t cs → TC g' w' sg' v t cs
 | .val v, t, cs, _, ⟨h1, h2⟩ => ⟨h1, h2.le hl⟩
 | .nil, .list t, cs, _, h => h
 | .ref i p, .list t, cs, hv, ⟨h1, h2⟩ => by
  obtain ⟨k1, k2⟩ := (hv i).ref (p := p) (fun root e => by
   simp only [TV.sees, sameId_eq.2 rfl, Bool.true_and, Bool.or_eq_false_iff, Bool.not_eq_false'] at e
   exact ⟨e.1, by simpa using e.2⟩)
  exact ⟨by rw [k1]; exact h1, fun s hs => ⟨(h2 s (k2 s hs).1).1, (k2 s hs).2 (h2 s (k2 s hs).1).2⟩⟩
 | .sub i p lo hi, .list t, cs, hv, ⟨h1, h2, h3⟩ => by
  obtain ⟨k1, k2⟩ := (hv i).ref (p := p) (fun root e => by
   simp only [TV.sees, sameId_eq.2 rfl, Bool.true_and, Bool.or_eq_false_iff, Bool.not_eq_false'] at e
   exact ⟨e.1, by simpa using e.2⟩)
  exact ⟨fun s hs => ⟨(h1 s (k2 s hs).1).1, (k2 s hs).2 (h1 s (k2 s hs).1).2⟩, h2, by rw [k1]; exact h3⟩
 | .pr a b, .prod ta tb, cs, hv, ⟨c, d, e, l1, l2, h1, h2⟩ =>
  ⟨c, d, e, l1, l2, TC.multi hl a ta c (fun i => (hv i).imp (fun h => h) (fun ⟨x, y, root, z1, z2, z3⟩ => ⟨x, y, root, z1, z2, by simp only [TV.sees, Bool.or_eq_false_iff] at z3; exact z3.1⟩)) h1,
   TC.multi hl b tb d (fun i => (hv i).imp (fun h => h) (fun ⟨x, y, root, z1, z2, z3⟩ => ⟨x, y, root, z1, z2, by simp only [TV.sees, Bool.or_eq_false_iff] at z3; exact z3.2⟩)) h2⟩
 | .dead, t, cs, _, h => TC.dead (TC.len (sg := sg) h)
theorem Unseen.base {g g' : Gh} {sg sg' : Id → Option Sig} {v : TV} {i : Id} (h : Unseen g g' sg sg' v i) : g'.base i = g.base i := by
 rcases h with h | h
 · exact h.base
 · exact h.1
theorem TRep1.multi {g g' : Gh} {w w' : World} {sg sg' : Id → Option Sig} (hl : Le g w g' w') (v : TV) (mv : Value) (hv : ∀ i, Unseen g g' sg sg' v i) (h : TRep1 g w sg v mv) : TRep1 g' w' sg' v mv := by
 cases v with
 | dead => trivial
 | nil => exact h
 | val v => exact TRep1.le (sg := sg) hl (.val v) mv (fun i hi => by simp [TV.looks] at hi) h
 | saddr v => exact TRep1.le (sg := sg) hl (.saddr v) mv (fun i hi => by simp [TV.looks] at hi) h
 | tad A =>
  obtain ⟨a, t, cs, h1, h2, h3, h4, h5, h6⟩ := h
  have ⟨e1, o1⟩ : w'.heap[a.block]? = w.heap[a.block]? ∧ (g'.own a.block = none ∨ g'.own a.block = some (none, none)) := by
   rcases h3 with h3 | h3
   · exact ⟨(hl.keep _ h4 h3).1, .inl (hl.keep _ h4 h3).2⟩
   · exact ⟨(hl.hid _ h4 h3).1, .inr (hl.hid _ h4 h3).2⟩
  exact ⟨a, t, cs, h1, h2, o1, Nat.lt_of_lt_of_le h4 hl.size, cellsAt_of e1 h5, TC.multi hl _ _ _ (fun i => (hv i).imp (fun h => h) (fun ⟨x, y, root, z1, z2, z3⟩ => ⟨x, y, root, z1, z2, by simpa [TV.sees] using z3⟩)) h6⟩
 | addr i p =>
  obtain ⟨a, h1, h2⟩ := h
  refine ⟨a, h1, fun s hs => ?_⟩
  rcases hv i with k | ⟨hb, hsg, root, z1, z2, z3⟩
  · exact (h2 s (k.sig s hs)).congr k.hdr k.base
  · have hp : p = [] := by simpa [TV.sees, sameId_eq.2 rfl] using z3
    subst hp
    have h2 := h2 s (hsg s hs)
    cases s with
    | vec u => exact absurd rfl h2.1
    | box u => simpa [AddrRoot, AddrOf, hb] using h2
    | fbox => simpa [AddrRoot, hb] using h2
 | fn f =>
  have : (f.caps.map fun i => Value.pointer (some (g.base i))) = f.caps.map fun i => Value.pointer (some (g'.base i)) :=
   List.map_congr_left fun i _ => by rw [(hv i).base]
  simp only [TRep1, FnVal] at h ⊢
  rw [h, this]
 | nilfn => exact h
 | tup l => exact h.elim
 | ref i p => obtain ⟨t, cs, h1, h2⟩ := h; exact ⟨t, cs, TC.multi hl _ _ _ hv h1, h2⟩
 | sub i p l k => obtain ⟨t, cs, h1, h2⟩ := h; exact ⟨t, cs, TC.multi hl _ _ _ hv h1, h2⟩
 | pr a b => obtain ⟨t, cs, h1, h2⟩ := h; exact ⟨t, cs, TC.multi hl _ _ _ hv h1, h2⟩
theorem TRep.multi {g g' : Gh} {w w' : World} {sg sg' : Id → Option Sig} (hl : Le g w g' w') (v : TV) (mv : Value) (hv : ∀ i, Unseen g g' sg sg' v i) (h : TRep g w sg v mv) : TRep g' w' sg' v mv := by
 cases v with
 | tup l =>
  obtain ⟨vs, h1, h2⟩ := h
  refine ⟨vs, h1, All2.imp (fun a ha b hb => hb.multi hl a b fun i => (hv i).imp (fun h => h) fun ⟨x, y, root, z1, z2, z3⟩ => ⟨x, y, root, z1, z2, seesAny_mem ha (by simpa [TV.sees] using z3)⟩) h2⟩
 | dead => exact TRep1.multi hl .dead mv hv h
 | nil => exact TRep1.multi hl .nil mv hv h
 | val v => exact TRep1.multi hl (.val v) mv hv h
 | ref i p => exact TRep1.multi hl (.ref i p) mv hv h
 | sub i p l k => exact TRep1.multi hl (.sub i p l k) mv hv h
 | addr i p => exact TRep1.multi hl (.addr i p) mv hv h
 | saddr v => exact TRep1.multi hl (.saddr v) mv hv h
 | tad A => exact TRep1.multi hl (.tad A) mv hv h
 | fn f => exact TRep1.multi hl (.fn f) mv hv h
 | nilfn => exact TRep1.multi hl .nilfn mv hv h
 | pr a b => exact TRep1.multi hl (.pr a b) mv hv h
end
end Go.Ve
namespace Go.Ve
open Go Go.RowKit
section
variable {P : Program} {g0 : Gh} {w0 : Fra} {N : Nat} {s : St} {g : Gh} {a : Act} {w : World} {α : Type} {r : α} {Q : Exit → Act → World → Prop} {L lent : List Id}
variable {gP gC g' : Gh} {w' : World} {shared : Bool}
theorem back_spec : ∀ (l : List Id) (os : List Ob) (s s' : St), back L s l os = some s' → l.Nodup → (∀ id ∈ l, ∃ o, s.obj id = some o) → s'.hole = s.hole ∧ (∀ t, s'.tmp t = s.tmp t ∨ s'.tmp t = .dead) ∧ (∀ id, id ∉ l → s'.obj id = s.obj id) ∧
  ∀ (k : Nat) (id : Id), l[k]? = some id → ∃ o b o0 root, os[k]? = some o ∧ backOb L o = some b ∧ s'.obj id = some b ∧ s.obj id = some o0 ∧ (root = true → ∀ u, o0.sig ≠ .vec u) ∧ (root = false → ∃ u, o0.sig = .vec u) ∧ ∀ t, (s'.tmp t).sees root id = false
 | [], os, s, s', h, _, _ => by
  cases os with
  | cons _ _ => simp [back] at h
  | nil =>
   simp only [back, Option.some.injEq] at h
   subst h
   exact ⟨rfl, fun _ => .inl rfl, fun _ _ => rfl, fun k id e => by simp at e⟩
 | id :: l, os, s, s', h, hn, ho => by
  cases os with
  | nil => simp [back] at h
  | cons o os =>
   simp only [back] at h
   split at h <;> try (cases h; done)
   rename_i b hb
   obtain ⟨hn1, hn2⟩ := List.nodup_cons.1 hn
   obtain ⟨o0, ho0⟩ := ho id (by simp)
   obtain ⟨root, z1, z2, z3, z4, z5, z6⟩ := hush_spec ho0
   have hobj : ∀ i, ((s.hush id).put id b).obj i = if i = id then some b else s.obj i := fun i => by rw [put_obj, z5]
   obtain ⟨q1, q2, q3, q4⟩ := back_spec l os _ s' h hn2 (fun i hi => by
    obtain ⟨o, e⟩ := ho i (by simp [hi])
    exact ⟨o, by rw [hobj, if_neg (by rintro rfl; exact hn1 hi)]; exact e⟩)
   have htmp : ∀ t, s'.tmp t = (s.hush id).tmp t ∨ s'.tmp t = .dead := q2
   refine ⟨q1.trans z6, fun t => ?_, fun i hi => ?_, fun k i hk => ?_⟩
   · rcases htmp t with e | e
     · rw [e]; exact z4 t
     · exact .inr e
   · simp only [List.mem_cons, not_or] at hi
     rw [q3 i hi.2, hobj, if_neg hi.1]
   · cases k with
     | zero =>
      simp only [List.getElem?_cons_zero, Option.some.injEq] at hk
      subst hk
      refine ⟨o, b, o0, root, rfl, hb, by rw [q3 _ hn1, hobj, if_pos rfl], ho0, z1, z2, fun t => ?_⟩
      rcases htmp t with e | e
      · rw [e]; exact z3 t
      · rw [e]; rfl
     | succ k =>
      have hk : l[k]? = some i := by simpa using hk
      have hne : i ≠ id := by rintro rfl; exact hn1 (List.mem_of_getElem? hk)
      obtain ⟨o', b', o0', root', k1, k2, k3, k4, k5, k6, k7⟩ := q4 k i hk
      rw [hobj, if_neg hne] at k4
      exact ⟨o', b', o0', root', by simpa using k1, k2, k3, k4, k5, k6, k7⟩
theorem backOb_sig {o b : Ob} (h : backOb L o = some b) : b.sig = o.sig := by
 unfold backOb at h
 split at h
 · split at h <;> try (cases h; done)
   simp only [Option.some.injEq] at h
   subst h
   rfl
 · simp only [Option.some.injEq] at h
   subst h
   rfl
theorem backIds_base {f g : Id → Addr} (hb : ∀ (k : Nat) (id : Id), L[k]? = some id → f (extId k) = g id) : ∀ (l is : List Id), backIds L l = some is → l.map (fun i => Value.pointer (some (f i))) = is.map fun i => Value.pointer (some (g i))
 | [], is, h => by simp only [backIds, Option.some.injEq] at h; subst h; rfl
 | i :: l, is, h => by
  simp only [backIds] at h
  split at h <;> try (cases h; done)
  rename_i j hj
  split at h <;> try (cases h; done)
  rename_i js hjs
  simp only [Option.some.injEq] at h
  subst h
  obtain ⟨k, rfl, hk⟩ := backId_some hj
  simp only [List.map_cons, hb k j hk, backIds_base hb l js hjs]
theorem RessRep.carry {g1 g2 : Gh} {w1 : World} (hh : ∀ r, g2.hdr none r = g1.hdr none r) (ho : ∀ b r, g1.own b = some (none, some r) → g2.own b = some (none, some r)) : ∀ (rs : List (Mask × Val)) (i : Nat) (vs : List Value), (∀ r ∈ rs, sharedIn r.1 r.2.t = false ∨ Keeps g1 w1 g2 w1) → RessRep g1 w1 i rs vs → RessRep g2 w1 i rs vs
 | [], i, [], _, _ => trivial
 | r :: rs, i, v :: vs, hk, ⟨⟨cs, h1, h2⟩, h3⟩ =>
  ⟨⟨cs, ORep.carry _ _ _ _ _ _ (hk r (by simp)) ⟨fun q => hh _, fun b q e => ⟨rfl, ho b _ e⟩, fun _ => Iff.rfl⟩ h1, h2⟩, RessRep.carry hh ho rs (i + 1) vs (fun x hx => hk x (by simp [hx])) h3⟩
theorem R.behind (hP : R g0 w0 N s gP a w) (hh : s.hole = none) (hn : L.Nodup) (V : View gP gC L shared) {os : List Ob} {rs : List (Mask × Val)} {os' : List Ob} {v : Value} (Lf : Left gC w os rs os' v g' w')
  (hos : ∀ (k : Nat) (id : Id), L[k]? = some id → ∃ o b, os[k]? = some o ∧ s.obj id = some b ∧ o.sig = b.sig) (hsh : shared = true ∨ ((∀ r ∈ rs, sharedIn r.1 r.2.t = false) ∧ ∀ o ∈ os', o.shares = false)) {s2 : St} (hb : back L s L os' = some s2) :
  R g0 w0 N s2 (gP.behind g' L w.heap.size) a w' ∧ s2.hole = none ∧ ResRep (gP.behind g' L w.heap.size) w' rs v := by
 obtain ⟨q1, q2, q3, q4⟩ := back_spec L os' s s2 hb hn (fun id hid => by
  obtain ⟨k, hk⟩ := List.getElem?_of_mem hid
  obtain ⟨o, b, _, h2, _⟩ := hos k id hk
  exact ⟨b, h2⟩)
 have hle : Le gP w (gP.behind g' L w.heap.size) w' := behind_le V Lf.le
 have hbase : ∀ (k : Nat) (id : Id), L[k]? = some id → g'.base (extId k) = gP.base id := by
  intro k id hk
  obtain ⟨o, b, h1, h2, h3⟩ := hos k id hk
  obtain ⟨o', b', o0, root, k1, _⟩ := q4 k id hk
  rw [(Lf.obs k o o' h1 k1).2.2.1, V.base k id hk]
 have hsig : ∀ (k : Nat) (id : Id), L[k]? = some id → s2.sig id = s.sig id := by
  intro k id hk
  obtain ⟨o, b, h1, h2, h3⟩ := hos k id hk
  obtain ⟨o', b', o0, root, k1, k2, k3, k4, _⟩ := q4 k id hk
  simp only [St.sig, k3, h2, Option.map_some, Option.some.injEq]
  rw [backOb_sig k2, (Lf.obs k o o' h1 k1).1, h3]
 have hhl : s2.hole = none := q1.trans hh
 have hkeeps : ∀ x : Bool, (x = false ∨ shared = true) → x = false ∨ Keeps g' w' (gP.behind g' L w.heap.size) w' := fun x hx => hx.imp (fun h => h) (fun h => behind_keeps V Lf.le h)
 refine ⟨{
  frame := hP.frame.trans hle
  tmps := fun t => by
   rcases q2 t with e | e
   · rw [e]
     refine TRep.multi hle _ _ (fun i => ?_) (hP.tmps t)
     by_cases hi : i ∈ L
     · obtain ⟨k, hk⟩ := List.getElem?_of_mem hi
       obtain ⟨o, b, h1, h2, h3⟩ := hos k i hk
       obtain ⟨o', b', o0, root, k1, k2, k3, k4, k5, k6, k7⟩ := q4 k i hk
       rw [h2] at k4
       injection k4 with k4
       subst k4
       refine .inr ⟨rfl, fun x hx => by rw [← hsig k i hk]; exact hx, root, fun hr => ?_, fun hr x hx u => ?_, by rw [← e]; exact k7 t⟩
       · obtain ⟨u, hu⟩ := k6 hr
         rw [behind_hdr hn hk, (Lf.obs k o o' h1 k1).2.2.2 ⟨u, by rw [h3]; exact hu⟩, V.hdr k i [] hk]
       · simp only [St.sig, h2, Option.map_some, Option.some.injEq] at hx
         subst hx
         exact k5 hr u
     · refine .inl ⟨(behind_same V Lf.le hP.lives (place_none hi)).hdr, rfl, fun x hx => ?_⟩
       simp only [St.sig, q3 i hi] at hx ⊢
       exact hx
   · rw [e]; trivial
  objs := fun i o e => by
   rw [St.hl, hhl]
   by_cases hi : i ∈ L
   · obtain ⟨k, hk⟩ := List.getElem?_of_mem hi
     obtain ⟨o1, b, h1, h2, h3⟩ := hos k i hk
     obtain ⟨o', b', o0, root, k1, k2, k3, k4, k5, k6, k7⟩ := q4 k i hk
     rw [k3] at e
     injection e with e
     subst e
     have hr := (Lf.obs k o1 o' h1 k1).2.1
     have hsh' : o'.shares = false ∨ Keeps g' w' (gP.behind g' L w.heap.size) w' := hkeeps _ (by
      rcases hsh with h | h
      · exact .inr h
      · exact .inl (h.2 o' (List.mem_of_getElem? k1)))
     have hfn : ∀ f, o' = .fbox (some f) → ∃ f', b' = .fbox (some f') ∧ FnVal (gP.behind g' L w.heap.size) f' = FnVal g' f := by
      rintro f rfl
      simp only [backOb] at k2
      split at k2 <;> try (cases k2; done)
      rename_i is his
      simp only [Option.some.injEq] at k2
      refine ⟨_, k2.symm, ?_⟩
      simp only [FnVal]
      rw [backIds_base (f := g'.base) (g := (gP.behind g' L w.heap.size).base) hbase _ _ his]
     refine RootRep.carry hsh' (fun r => behind_hdr hn hk r) (hbase k i hk).symm (fun b r e => ⟨rfl, behind_ext V Lf.le hk e⟩) ?_ hfn hr
     unfold backOb at k2
     split at k2
     · rename_i f
       obtain ⟨f', e1, e2⟩ := hfn f rfl
       exact .inr ⟨f, f', rfl, e1, e2⟩
     · injection k2 with k2
       exact .inl k2.symm
   · rw [q3 i hi] at e
     have hob := hP.objs i o e
     rw [St.hl, hh] at hob
     refine RootRep.same hle (behind_same V Lf.le hP.lives (place_none hi)) (fun _ => Iff.rfl) o (fun _ _ _ _ => rfl) hob
  lives := behind_lives Lf.le Lf.lives
  defers := hP.defers
  size := hP.size
  small := hP.small
  ext := fun i o e hi' => by
   by_cases hi : i ∈ L
   · obtain ⟨k, hk⟩ := List.getElem?_of_mem hi
     obtain ⟨o1, b, h1, h2, h3⟩ := hos k i hk
     obtain ⟨o', b', o0, root, k1, k2, k3, k4, k5, k6, k7⟩ := q4 k i hk
     obtain ⟨z1, z2⟩ := hP.ext i b h2 hi'
     refine ⟨z1, fun ⟨u, hu⟩ => ?_⟩
     rw [k3] at e
     injection e with e
     subst e
     have hu1 : o1.sig = .vec u := by rw [← (Lf.obs k o1 o' h1 k1).1, ← backOb_sig k2]; exact hu
     rw [behind_hdr hn hk, (Lf.obs k o1 o' h1 k1).2.2.2 ⟨u, hu1⟩, V.hdr k i [] hk]
     exact z2 ⟨u, by rw [← h3]; exact hu1⟩
   · rw [q3 i hi] at e
     rw [(behind_same V Lf.le hP.lives (place_none hi)).hdr]
     exact hP.ext i o e hi' }, hhl, ?_⟩
 obtain ⟨vs, r1, r2⟩ := Lf.res
 exact ⟨vs, RessRep.carry (g1 := g') (g2 := gP.behind g' L w.heap.size) (fun _ => rfl) (fun b r e => behind_float V Lf.le e) rs 0 vs (fun r hr => hkeeps _ (by
  rcases hsh with h | h
  · exact .inr h
  · exact .inl (h.1 r hr))) r1, r2⟩
end
end Go.Ve
