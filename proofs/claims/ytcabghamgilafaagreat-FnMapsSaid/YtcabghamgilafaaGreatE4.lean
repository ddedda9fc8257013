/-
 An evaluator of the code over typed data, proved sound once (part 4 of 4).
-/
import Derived.Test.YtcabghamgilafaaGreatE3
import Derived.WalkKit
import Derived.OpenShut
import Derived.ShutString
import Derived.SizedLaws
import Derived.Deep.Slices
import Derived.ChangeMaps5
import Derived.ChangeOld
import Derived.Carry
set_option linter.unusedVariables false
set_option linter.unusedSimpArgs false
namespace Go.Ve
open Go Go.RowKit Go.Deep Go.ChangeShapes Go.WideShapes
def Sm : (t : Ty) → t.den → Prop
 | .int k, n => k.min ≤ n ∧ n ≤ k.max
 | .str, s => ByteArray.size s ≤ 140737488351232
 | .list e, xs => List.length xs ≤ 140737488351232 ∧ ∀ x ∈ xs, Sm e x
 | .prod a b, x => Sm a x.1 ∧ Sm b x.2
 | _, _ => True
def Gh.none : Gh := ⟨fun _ _ => undef, fun _ => ⟨0, 0, Option.none⟩, fun _ => Option.none⟩
section
variable {H : Type} {enc : TypeId × Value → H} {P : Program} {tab : Tab} {w : World}
theorem weights_all {t : TypeId} : ∀ (ds : List (DataW H)) (d : DataW H), d ∈ ds → ∀ n ∈ DataW.weights P t d, n ∈ DataW.weightsAll P t ds
 | [], d, h, n, hn => by cases h
 | e :: ds, d, h, n, hn => by
  simp only [DataW.weightsAll, List.mem_append]
  rcases List.mem_cons.1 h with rfl | h
  · exact .inl hn
  · exact .inr (weights_all ds d h n hn)
theorem cells_get {base : Nat} {a : Addr} {n : Nat} {cs : List Value} (h : w.cells? base a n = some cs) : cs.length = n ∧ ∀ j, (h : j < cs.length) → w.cell? (a.add j) = some cs[j] := by
 obtain ⟨h0, hl, hc⟩ := World.cells?_some h
 refine ⟨hl, fun i hi => ?_⟩
 rw [hc i (by omega)]
 simp [hi]
theorem cell_spot {a : Addr} {v : Value} (h : w.cell? a = some v) : a.spot = Option.none := by
 unfold World.cell? at h
 split at h <;> try (cases h; done)
 split at h
 · cases h
 · rename_i h0
   simpa using h0
theorem fields_read {W : Prop} : ∀ (n : Nat) (t : Ty) (cs : List Value), 1 ≤ n → (∀ j, j < n → ∃ u, compTy n j t = some u ∧ ∃ y : u.den, SRep Gh.none w u y ((cs.drop (compOff n j t)).take u.size) ∧ (W → Sm u y)) → cs.length = t.size →
  ∃ y : t.den, SRep Gh.none w t y cs ∧ (W → Sm t y)
 | 0, _, _, h, _, _ => by omega
 | 1, t, cs, _, hf, hl => by
  obtain ⟨u, h1, y, h2, h3⟩ := hf 0 (by omega)
  simp only [compTy, Option.some.injEq] at h1
  subst h1
  simp only [compOff, List.drop_zero] at h2
  rw [List.take_of_length_le (by omega)] at h2
  exact ⟨y, h2, h3⟩
 | n + 2, t, cs, _, hf, hl => by
  obtain ⟨u, h1, y, h2, h3⟩ := hf 0 (by omega)
  cases t <;> simp only [compTy] at h1 <;> try (cases h1; done)
  rename_i a b
  injection h1 with h1
  subst h1
  simp only [compOff, List.drop_zero] at h2
  obtain ⟨z, h4, h5⟩ := fields_read (n + 1) b (cs.drop a.size) (by omega) (fun j hj => by
   obtain ⟨u, k1, y, k2, k3⟩ := hf (j + 1) (by omega)
   simp only [compTy] at k1
   simp only [compOff] at k2
   refine ⟨u, k1, y, ?_, k3⟩
   rw [List.drop_drop]
   exact k2) (by simp only [List.length_drop, hl, Ty.size]; omega)
  exact ⟨(y, z), ⟨_, _, (List.take_append_drop a.size cs).symm, h2, h4⟩, fun hw => ⟨h3 hw, h5 hw⟩⟩
theorem compTy_lt : ∀ (n j : Nat) (t u : Ty), 2 ≤ n → compTy n j t = some u → SizeOf.sizeOf u < SizeOf.sizeOf t
 | 0, _, _, _, h, _ => by omega
 | 1, _, _, _, h, _ => by omega
 | n + 2, 0, t, u, _, h => by
  cases t <;> simp only [compTy] at h <;> try (cases h; done)
  injection h with h
  subst h
  simp only [Ty.prod.sizeOf_spec]; omega
 | n + 2, j + 1, t, u, _, h => by
  cases t <;> simp only [compTy] at h <;> try (cases h; done)
  rename_i a b
  simp only [Ty.prod.sizeOf_spec]
  cases n with
  | zero =>
   cases j with
   | zero =>
    have h : some b = some u := h
    injection h with h
    subst h; omega
   | succ j => exact absurd h (by simp [compTy])
  | succ n => have := compTy_lt (n + 2) j b u (by omega) h; omega
theorem cells_ti {T : TypeId} {i : TI} (h : TiOk P tab T i) : P.cellsOf T = i.ty.size := by
 obtain ⟨ti, h1, h2, _⟩ := h.info
 simp [Program.cellsOf, h1, h2]
theorem reads (ht : TabOk P tab) : ∀ (k : Nat) (T : TypeId) (i : TI), tab.ti T = some i → SizeOf.sizeOf i.ty ≤ k → ∀ fuel cs x, DataW.trod enc P w 0 (fun _ => true) true fuel T cs = some x →
  ∃ y : i.ty.den, SRep Gh.none w i.ty y cs ∧ ((∀ n ∈ DataW.weights P T x.1, n ≤ reachBytes) → Sm i.ty y)
 | 0, T, ⟨ty, _, _, _⟩, hi, hk, fuel, cs, x, h => by exfalso; cases ty <;> simp at hk
 | k + 1, T, ⟨ty, ar, by_, arr⟩, hi, hk, fuel, cs, x, h => by
  have hT := ht T _ hi
  have hkind := hT.kind
  have hcell := cells_ti hT
  dsimp only at hk ⊢ hcell
  cases ty with
  | unit => exact hkind.elim
  | int q =>
   obtain ⟨n, rfl, _, hw⟩ := DataW.trod_int hkind h
   refine ⟨n, rfl, fun _ => ?_⟩
   simpa [Lit.wf, Sm] using hw
  | bool =>
   obtain ⟨b, rfl, _⟩ := DataW.trod_bool hkind h
   exact ⟨b, rfl, fun _ => trivial⟩
  | str =>
   obtain ⟨s, rfl, rfl, hs⟩ := DataW.trod_string hkind h
   refine ⟨s, rfl, fun hw => ?_⟩
   have := hw s.data.toList.length (by simp [DataW.weights])
   simp only [reachBytes, Array.length_toList] at this
   exact this
  | list e =>
   obtain ⟨E, ie, ti, hu, hE, rfl, hti, hb, hpos⟩ := hkind
   have hcE := cells_ti (ht E _ hE)
   rcases open_slice hu h with ⟨rfl, rfl⟩ | ⟨a, len, cap, m, n, D, Pl, rfl, _, hl, hm, hmm, rfl, hx⟩
   · exact ⟨[], .inl ⟨rfl, rfl⟩, fun _ => ⟨by simp, by simp⟩⟩
   · simp only [if_true] at hmm
     obtain rfl := hmm.symm
     have hpos : 0 < by_ := hpos
     have hspot : 0 < len → a.spot = Option.none := by
      intro h0
      obtain ⟨c, h1, _⟩ := hx 0 (by omega)
      rw [hcE] at h1
      obtain ⟨k1, k3⟩ := cells_get h1
      have hp := (ht E _ hE).pos
      have h := k3 0 (by omega)
      have e : (a.add (0 * ie.ty.size)).add 0 = a := by simp [Addr.add]
      rw [e] at h
      exact cell_spot h
     have each : ∀ i : Nat, i < len → ∃ y : ie.ty.den, ∃ c : List Value, a.block < w.heap.size ∧ cellsAt w (a.add (i * ie.ty.size)) c ∧ SRep Gh.none w ie.ty y c ∧ ((∀ n ∈ DataW.weights P E (D i), n ≤ reachBytes) → Sm ie.ty y) := by
      intro i hi
      obtain ⟨c, h1, h2⟩ := hx i (by omega)
      obtain ⟨y, h3, h4⟩ := reads ht k E ie hE (by simp only [Ty.list.sizeOf_spec] at hk; omega) _ _ _ h2
      rw [hcE] at h1
      obtain ⟨k1, k3⟩ := cells_get h1
      have hp := (ht E _ hE).pos
      have := k3 0 (by omega)
      unfold World.cell? at this
      have hbk : ((a.add (i * ie.ty.size)).add 0).block = a.block := by rw [add_block, add_block]
      rw [hbk] at this
      refine ⟨y, c, ?_, k3, h3, h4⟩
      cases hh : w.heap[a.block]? with
      | none => simp [hh] at this
      | some o => exact (Array.getElem?_eq_some_iff.1 hh).1
     have hlen : ∀ q, q ≤ len → ∃ xs : List ie.ty.den, xs.length = q ∧ ∀ i y, xs[i]? = some y → ∃ c : List Value, a.block < w.heap.size ∧ cellsAt w (a.add (i * ie.ty.size)) c ∧ SRep Gh.none w ie.ty y c ∧ ((∀ n ∈ DataW.weights P E (D i), n ≤ reachBytes) → Sm ie.ty y) := by
      intro q
      induction q with
      | zero => intro _; exact ⟨[], rfl, fun i y hi => by simp at hi⟩
      | succ q ih =>
       intro hq
       obtain ⟨xs, hxl, hxs⟩ := ih (by omega)
       obtain ⟨y, h1⟩ := each q (by omega)
       refine ⟨xs ++ [y], by simp [hxl], fun i z hi => ?_⟩
       rcases Nat.lt_or_ge i q with hik | hik
       · rw [List.getElem?_append_left (by omega)] at hi
         exact hxs i z hi
       · rw [List.getElem?_append_right (by omega), hxl] at hi
         have : i = q := by
          have := (List.getElem?_eq_some_iff.1 hi).1
          simp at this
          omega
         subst this
         simp at hi
         subst hi
         exact h1
     obtain ⟨xs, hxl, hxs⟩ := hlen len (Nat.le_refl _)
     subst hxl
     refine ⟨xs, .inr ⟨a, cap, rfl, hspot, hl, fun j hj => ?_⟩, fun hw => ⟨?_, ?_⟩⟩
     · obtain ⟨c, h2, h3, h4, _⟩ := hxs j xs[j] (by simp [hj])
       exact ⟨rfl, h2, c, h3, h4⟩
     · have hbE : P.bytesOf E = by_ := by simp [Program.bytesOf, hti, hb]
       have h0 := hw ((((List.range xs.length).map D).length + ((List.range (cap - xs.length)).map fun j => D (xs.length + j)).length) * P.bytesOf E) (by simp only [DataW.weights, hu]; exact List.mem_cons_self)
       simp only [List.length_map, List.length_range, reachBytes, hbE] at h0
       have := Nat.le_mul_of_pos_right (xs.length + (cap - xs.length)) hpos
       show xs.length ≤ _
       omega
     · intro y hy
       obtain ⟨i, hi⟩ := List.getElem?_of_mem hy
       obtain ⟨c, _, _, _, h3⟩ := hxs i y hi
       refine h3 fun n hn => hw n ?_
       simp only [DataW.weights, hu]
       refine List.mem_cons_of_mem _ (List.mem_append_left _ (weights_all _ (D i) ?_ n hn))
       exact List.mem_map.2 ⟨i, List.mem_range.2 (List.getElem?_eq_some_iff.1 hi).1, rfl⟩
  | prod a b =>
   rcases hkind with ⟨rfl, rfl, E, ie, hu, hE, rfl, rfl⟩ | ⟨rfl, fs, hu, hfs, hf⟩
   · obtain ⟨xs, m, _, rfl, hl, hn, hx⟩ := DataW.trod_array hu h
     have hcE := cells_ti (ht E _ hE)
     rw [hcell] at hl
     have el : ∀ j, j < 2 → ∃ y : ie.ty.den, SRep Gh.none w ie.ty y ((cs.drop (j * ie.ty.size)).take ie.ty.size) ∧ ((∀ n ∈ DataW.weights P T (.agg (xs.map (·.1))), n ≤ reachBytes) → Sm ie.ty y) := by
      intro j hj
      have h1 := hx j hj
      rw [List.getElem?_eq_getElem (by omega), hcE] at h1
      obtain ⟨y, h2, h3⟩ := reads ht k E ie hE (by simp only [Ty.prod.sizeOf_spec] at hk; omega) _ _ _ h1
      refine ⟨y, h2, fun hw => h3 fun n hn => hw n ?_⟩
      simp only [DataW.weights, hu]
      exact weights_all _ _ (List.mem_map.2 ⟨_, List.getElem_mem _, rfl⟩) n hn
     obtain ⟨y0, a1, a2⟩ := el 0 (by omega)
     obtain ⟨y1, b1, b2⟩ := el 1 (by omega)
     simp only [Ty.size] at hl
     rw [Nat.zero_mul, List.drop_zero] at a1
     rw [Nat.one_mul, List.take_of_length_le (by simp only [List.length_drop]; omega)] at b1
     exact ⟨(y0, y1), ⟨_, _, (List.take_append_drop ie.ty.size cs).symm, a1, b1⟩, fun hw => ⟨a2 hw, b2 hw⟩⟩
   · obtain ⟨xs, m, _, rfl, hl, hn, hx⟩ := DataW.trod_struct hu h
     have hfs : fs.size = ar := hfs
     have har : 2 ≤ ar := by
      rcases hT.arity with h | h
      · exact h
      · simp [Ty.isProd] at h
     rw [hcell] at hl
     refine fields_read ar _ cs (by omega) (fun j hj => ?_) hl
     have hj' : j < fs.size := by omega
     obtain ⟨fi, k1, k2, k3⟩ := hf j fs[j] (by simp [hj'])
     have h1 := hx j fs[j] (by simp [hj'])
     rw [List.getElem?_eq_getElem (by omega), cells_ti (ht _ _ k1), k3] at h1
     have hlt : SizeOf.sizeOf fi.ty < SizeOf.sizeOf (Ty.prod a b) := compTy_lt ar j _ _ har k2
     have hk : SizeOf.sizeOf (Ty.prod a b) ≤ k + 1 := hk
     have hle : SizeOf.sizeOf fi.ty ≤ k := by omega
     obtain ⟨y, h2, h3⟩ := reads ht k _ fi k1 hle _ _ _ h1
     refine ⟨fi.ty, k2, y, h2, fun hw => h3 fun n hn => hw n ?_⟩
     simp only [DataW.weights, hu]
     refine DataW.weights_mem_each (j := j) (t := fs[j].type) ?_ ?_ n hn
     · simp [hj']
     · rw [List.getElem?_map, List.getElem?_eq_getElem (by omega)]; rfl
end
end Go.Ve
namespace Go.Ve
open Go Go.RowKit Go.ChangeShapes Go.WideShapes
section
variable {H : Type} {enc : TypeId × Value → H} {P : Program} {tab : Tab} {w : World}
theorem wrap_whole {T : TypeId} {i : TI} (h : TiOk P tab T i) {r : Reach} {b : Nat} {v : Value} (hv : Value.okWide P w r b T v) : v = wrap i.ty v.cells.toList := by
 have hk := h.kind
 obtain ⟨ty, ar, by_, arr⟩ := i
 dsimp only at hk ⊢
 cases ty with
 | unit => exact hk.elim
 | int q => obtain ⟨n, rfl⟩ := okWide_int hk hv; rfl
 | bool => obtain ⟨n, rfl⟩ := okWide_bool hk hv; rfl
 | str => obtain ⟨n, rfl⟩ := okWide_string hk hv; rfl
 | list e =>
  obtain ⟨E, ie, ti, hu, _⟩ := hk
  obtain ⟨a, l, c, rfl⟩ := okWide_slice hu hv
  rfl
 | prod a b =>
  rcases hk with ⟨_, _, E, ie, hu, _⟩ | ⟨_, fs, hu, _⟩
  · simp only [Value.okWide, hu] at hv
    obtain ⟨cs, rfl, _⟩ := hv
    rfl
  · simp only [Value.okWide, hu] at hv
    obtain ⟨cs, rfl, _⟩ := hv
    rfl
def tysOk (tab : Tab) : List TypeId → List Ty → Prop
 | [], [] => True
 | T :: ts, t :: l => (∃ i, tab.ti T = some i ∧ i.ty = t) ∧ tysOk tab ts l
 | _, _ => False
def SmA : (l : List Ty) → argP (l.map ASh.val) → Prop
 | [], _ => True
 | t :: l, p => Sm t p.1 ∧ SmA l p.2
theorem reads_args (ht : TabOk P tab) {b : Nat} : ∀ (ts : List TypeId) (tys : List Ty) (k : Nat) (vs : List Value) (ds : List (DataW H)) (ps : List MemPlace), tysOk tab ts tys → DataW.TrodAll enc P w 0 (fun _ => true) true ts vs ds ps →
  (∀ (j : Nat) t v, ts[j]? = some t → vs[j]? = some v → Value.okWide P w .any b t v) → ∃ x : argP (tys.map ASh.val), ArgsRep Gh.none w k (mkArgs (tys.map ASh.val) x) vs ∧ ((∀ n ∈ DataW.weightsEach P ts ds, n ≤ reachBytes) → SmA tys x)
 | [], [], k, vs, ds, ps, _, hA, hv => by
  obtain ⟨rfl, rfl, rfl⟩ := trodAll_nil hA
  exact ⟨(), trivial, fun _ => trivial⟩
 | T :: ts, [], k, vs, ds, ps, h, hA, hv => h.elim
 | [], _ :: _, k, vs, ds, ps, h, hA, hv => h.elim
 | T :: ts, t :: tys, k, vs, ds, ps, ⟨⟨i, hi, e⟩, hs⟩, hA, hv => by
  subst e
  obtain ⟨v, vs', d, ds', p, q, rfl, rfl, rfl, ⟨fuel, h0⟩, hA'⟩ := trodAll_cons hA
  have hok := hv 0 T v rfl rfl
  obtain ⟨y, h1, h2⟩ := reads ht _ T i hi (Nat.le_refl _) _ _ _ h0
  obtain ⟨x, h3, h4⟩ := reads_args ht ts tys (k + 1) vs' ds' q hs hA' (fun j t v h1 h2 => hv (j + 1) t v (by simpa using h1) (by simpa using h2))
  refine ⟨(y, x), ⟨⟨v.cells.toList, h1, wrap_whole (ht T i hi) hok⟩, h3⟩, fun hw => ⟨h2 fun n hn => hw n ?_, h4 fun n hn => hw n ?_⟩⟩
  · simp only [DataW.weightsEach, List.mem_append]; exact .inl hn
  · simp only [DataW.weightsEach, List.mem_append]; exact .inr hn
theorem trodAll_len : ∀ (ts : List TypeId) (vs : List Value) (ds : List (DataW H)) (ps : List MemPlace) {base : Nat} {spare : Nat → Bool} {held : Bool}, DataW.TrodAll enc P w base spare held ts vs ds ps → ds.length = ts.length
 | [], vs, ds, ps, _, _, _, h => by obtain ⟨rfl, rfl, rfl⟩ := trodAll_nil h; rfl
 | T :: ts, vs, ds, ps, _, _, _, h => by
  obtain ⟨v, vs', d, ds', p, q, rfl, rfl, rfl, _, h⟩ := trodAll_cons h
  simp [trodAll_len ts vs' ds' q h]
theorem weightsEach_left : ∀ (ts us : List TypeId) (ds es : List (DataW H)) (n : Nat), n ∈ DataW.weightsEach P ts ds → n ∈ DataW.weightsEach P (ts ++ us) (ds ++ es)
 | [], _, _, _, n, h => by simp [DataW.weightsEach] at h
 | t :: ts, _, [], _, n, h => by simp [DataW.weightsEach] at h
 | t :: ts, us, d :: ds, es, n, h => by
  simp only [DataW.weightsEach, List.mem_append, List.cons_append] at h ⊢
  exact h.imp id (weightsEach_left ts us ds es n)
def rowsB (P : Program) (ts : List TypeId) : Bool := ts.all fun t => P.readableRec t && decide (t < P.types.size)
theorem trodAll_below (hl : laidOutB P = true) {w' : World} (hb : Below w.heap.size w w') : ∀ (ts : List TypeId) (vs : List Value) (ds : List (DataW H)) (ps : List MemPlace), rowsB P ts = true →
  DataW.TrodAll enc P w 0 (fun _ => true) true ts vs ds ps → DataW.TrodAll enc P w' 0 (fun b => decide (b < w.heap.size)) true ts vs ds ps
 | [], vs, ds, ps, _, h => by obtain ⟨rfl, rfl, rfl⟩ := trodAll_nil h; exact rfl
 | T :: ts, vs, ds, ps, hr, h => by
  obtain ⟨v, vs', d, ds', p, q, rfl, rfl, rfl, h0, h⟩ := trodAll_cons h
  simp only [rowsB, List.all_cons, Bool.and_eq_true, decide_eq_true_eq] at hr
  have lt0 : ∀ x ∈ p, x.block < w.heap.size := by obtain ⟨m, hm⟩ := h0; exact DataW.trod_lt m _ _ _ hm
  exact ⟨p, q, Below.trod hl hr.1.1 hr.1.2 h0 hb lt0, trodAll_below hl hb ts vs' ds' q hr.2 h, rfl⟩
theorem law_calls {f : FuncId} {tys : List Ty} {r : Nat} {F : argP (tys.map ASh.val) → obP (extObs 0 []) → Option (End.P ⟨[⟨r, .shr, .bool, none⟩], []⟩)} (hD : Fn.Says P ⟨f, tys.map ASh.val, [], ⟨[⟨r, .shr, .bool, none⟩], []⟩, F⟩)
  {x : argP (tys.map ASh.val)} (h : F x () = some ((true, ()), ())) {vs : Array Value} (hr : ArgsRep Gh.none w 0 (mkArgs (tys.map ASh.val) x) vs.toList) : Calls P f vs w fun e w' => e = .returned (.bool true) ∧ Below w.heap.size w w' := by
 have hC := (hD x () _ h).2 Gh.none w vs (fun b o e => by cases e) hr (fun k o e => by simp [obV, extObs] at e)
 refine hC.mono ?_
 rintro e w' ⟨v, g', rfl, hL⟩
 obtain ⟨vs', h1, h2⟩ := hL.res
 refine ⟨?_, hL.le.os, hL.le.tape, hL.le.output, hL.le.size, fun b hb => (hL.le.keep b hb rfl).1⟩
 match vs', h1, h2 with
 | [u], h1, h2 =>
  obtain ⟨⟨cs, h3, h4⟩, _⟩ := h1
  have h3 : cs = [.bool true] := h3
  subst h3
  subst h4
  subst h2
  rfl
end
end Go.Ve
namespace Go.Ve
open Go
theorem w64_of {x : Int} (h1 : -9223372036854775808 ≤ x) (h2 : x ≤ 9223372036854775807) : w64 x = x := by
 simp only [w64, IntKind.wrap, IntKind.bits, IntKind.signed]
 simp
 omega
theorem w64_range (x : Int) : -9223372036854775808 ≤ w64 x ∧ w64 x ≤ 9223372036854775807 := by
 simp only [w64, IntKind.wrap, IntKind.bits, IntKind.signed]
 simp
 omega
theorem w64_succ {i : Nat} (h : i < 4611686018427387904) : w64 ((i : Int) + 1) = ((i + 1 : Nat) : Int) := by rw [w64_of] <;> omega
theorem w64_pred {i : Nat} (h : i < 4611686018427387904) (h0 : 0 < i) : w64 ((i : Int) - 1) = ((i - 1 : Nat) : Int) := by rw [w64_of] <;> omega
theorem inb_nat {i n : Nat} : inb (i : Int) n = decide (i < n) := by simp [inb]
theorem inb_true {j : Int} {n : Nat} (h0 : 0 ≤ j) (h : j < n) : inb j n = true := by simp [inb, h0, h]
theorem guardB_true {α : Type} {b : Bool} {x : Option α} (h : b = true) : guardB b x = x := by subst h; rfl
section
variable {P Q : Type} {B : P → Option (P ⊕ Q)}
theorem iter_of {n : Nat} {p : P} {q : Q} (h : iter B n p = some q) : loopO B p = some q := loopO_of h
theorem loop_step {p p' : P} {q : Q} (h : B p = some (.inl p')) (k : loopO B p' = some q) : loopO B p = some q := by
 obtain ⟨n, hn⟩ := of_loopO k
 exact loopO_of (n := n + 1) (by simp [iter, h, hn])
theorem loop_end {p : P} {q : Q} (h : B p = some (.inr q)) : loopO B p = some q := loopO_of (n := 1) (by simp [iter, h])
theorem loop_count (st : Nat → P) (n : Nat) (q : Q) (step : ∀ i, i < n → B (st i) = some (.inl (st (i + 1)))) (stop : B (st n) = some (.inr q)) : ∀ k, k ≤ n → loopO B (st k) = some q := by
 intro k hk
 obtain ⟨d, rfl⟩ : ∃ d, n = k + d := ⟨n - k, by omega⟩
 clear hk
 induction d generalizing k with
 | zero => exact loop_end stop
 | succ d ih =>
  refine loop_step (step k (by omega)) (ih (k + 1) (fun i hi => step i (by omega)) ?_)
  rw [show k + 1 + d = k + (d + 1) by omega]; exact stop
def firstHit (hit : Nat → Option Q) : Nat → Nat → Option Q
 | _, 0 => none
 | k, d + 1 => match hit k with
  | some q => some q
  | none => firstHit hit (k + 1) d
theorem loop_find (st : Nat → P) (hit : Nat → Option Q) (n : Nat) (fin : Q) (step : ∀ i, i < n → B (st i) = some (match hit i with
  | some q => .inr q
  | none => .inl (st (i + 1)))) (stop : B (st n) = some (.inr fin)) : loopO B (st 0) = some ((firstHit hit 0 n).getD fin) := by
 suffices h : ∀ d k, k + d = n → loopO B (st k) = some ((firstHit hit k d).getD fin) from h n 0 (by omega)
 intro d
 induction d with
 | zero => intro k hk; have : k = n := by omega
           subst this; exact loop_end stop
 | succ d ih =>
  intro k hk
  have h := step k (by omega)
  cases e : hit k with
  | some q => rw [e] at h; simp only [firstHit, e, Option.getD_some]; exact loop_end h
  | none => rw [e] at h; simp only [firstHit, e]; exact loop_step h (ih (k + 1) (by omega))
def allUpto (good : Nat → Bool) : Nat → Bool
 | 0 => true
 | n + 1 => allUpto good n && good n
theorem allUpto_iff {good : Nat → Bool} : ∀ {n : Nat}, allUpto good n = true ↔ ∀ i, i < n → good i = true
 | 0 => by simp [allUpto]
 | n + 1 => by
  simp only [allUpto, Bool.and_eq_true, allUpto_iff]
  constructor
  · rintro ⟨h1, h2⟩ i hi
    rcases Nat.lt_or_ge i n with h | h
    · exact h1 i h
    · rw [show i = n by omega]; exact h2
  · intro h
    exact ⟨fun i hi => h i (by omega), h n (by omega)⟩
theorem loop_all (st : Nat → P) (good : Nat → Bool) (n : Nat) (bad fin : Q) (step : ∀ i, i < n → (∀ j, j < i → good j = true) → B (st i) = some (bif good i then .inl (st (i + 1)) else .inr bad)) (stop : B (st n) = some (.inr fin)) :
  loopO B (st 0) = some (bif allUpto good n then fin else bad) := by
 suffices h : ∀ d k, k + d = n → (∀ j, j < k → good j = true) → loopO B (st k) = some (bif allUpto good n then fin else bad) from h n 0 (by omega) (fun j hj => by omega)
 intro d
 induction d with
 | zero =>
  intro k hk hg
  have : k = n := by omega
  subst this
  rw [allUpto_iff.2 hg]
  exact loop_end stop
 | succ d ih =>
  intro k hk hg
  have h := step k (by omega) hg
  cases e : good k
  · rw [e] at h
    have : allUpto good n = false := by
     cases e' : allUpto good n
     · rfl
     · rw [allUpto_iff.1 e' k (by omega)] at e; cases e
    rw [this]
    exact loop_end h
  · rw [e] at h
    exact loop_step h (ih (k + 1) (by omega) (fun j hj => by
     rcases Nat.lt_or_ge j k with h | h
     · exact hg j h
     · rw [show j = k by omega]; exact e))
theorem loop_inv (Inv : P → Prop) (m : P → Nat) (Post : Q → Prop) (step : ∀ p, Inv p → (∃ p', B p = some (.inl p') ∧ Inv p' ∧ m p' < m p) ∨ (∃ q, B p = some (.inr q) ∧ Post q)) : ∀ p, Inv p → ∃ q, loopO B p = some q ∧ Post q := by
 intro p hp
 generalize hn : m p = n
 induction n using Nat.strongRecOn generalizing p with
 | ind n ih =>
  rcases step p hp with ⟨p', h1, h2, h3⟩ | ⟨q, h1, h2⟩
  · obtain ⟨q, h4, h5⟩ := ih (m p') (by omega) p' h2 rfl
    exact ⟨q, loop_step h1 h4, h5⟩
  · exact ⟨q, loop_end h1, h2⟩
end
theorem bne_ne {x y : Int} (h : ¬ x = y) : (x != y) = true := by simp [h]
theorem beq_ne {x y : Int} (h : ¬ x = y) : (x == y) = false := by simp [h]
theorem bne_eq {x y : Int} (h : x = y) : (x != y) = false := by simp [h]
theorem beq_eq {x y : Int} (h : x = y) : (x == y) = true := by simp [h]
theorem getD_at {α : Type} {l : List α} {i : Nat} (h : i < l.length) (d : α) : l.getD i d = l[i] := by simp [List.getD, h]
theorem bif_decide {α : Type} {p : Prop} [Decidable p] (a b : α) : (bif decide p then a else b) = if p then a else b := by by_cases h : p <;> simp [h]
def fill {α : Type} (f : Nat → α) (z : α) (n i : Nat) : List α := (List.range n).map fun j => if j < i then f j else z
theorem fill_len {α : Type} {f : Nat → α} {z : α} {n i : Nat} : (fill f z n i).length = n := by simp [fill]
theorem fill_zero {α : Type} {f : Nat → α} {z : α} {n : Nat} : fill f z n 0 = List.replicate n z := by
 apply List.ext_getElem
 · simp [fill]
 · intro j h1 h2; simp [fill]
theorem fill_set {α : Type} {f : Nat → α} {z : α} {n i : Nat} (h : i < n) : (fill f z n i).set i (f i) = fill f z n (i + 1) := by
 apply List.ext_getElem
 · simp [fill]
 · intro j h1 h2
   simp only [fill, List.getElem_set, List.getElem_map, List.getElem_range]
   by_cases hj : i = j
   · subst hj; simp
   · rw [if_neg hj]
     by_cases hlt : j < i
     · rw [if_pos hlt, if_pos (by omega)]
     · rw [if_neg hlt, if_neg (by omega)]
theorem fill_all {α : Type} {f : Nat → α} {z : α} {n : Nat} : fill f z n n = (List.range n).map f := by
 apply List.ext_getElem
 · simp [fill]
 · intro j h1 h2
   have : j < n := by simpa [fill] using h1
   simp [fill, this]
theorem range_getD {α : Type} (l : List α) (d : α) : ((List.range l.length).map fun j => l.getD j d) = l := by
 apply List.ext_getElem
 · simp
 · intro j h1 h2; simp [h2]
end Go.Ve
