/-
 What the library functions of this seat do, told for the evaluator.
-/
import Derived.Test.YtcabghamgilafaaGreatE4
import Derived.Shelf.SlSortCmp.NoneTotal
import Derived.RangeFuncBox
import Derived.RangeFuncLeaves
import Derived.Shelf.Abstract
import Derived.WalkKit
import Derived.OwnWalkIn
import Derived.TacticsInMore
import Derived.LoopNIn
import Derived.LoopIn
import Derived.Test.YtcabghamgilafaaGreatProg
import Derived.RangeFuncGives
import Derived.RangeFuncBound
import Derived.Maps.RangeWalk
import Derived.Maps.AppendAt
import Derived.Sort.OwnSorted
import Derived.Test.YtcabghamgilafaaGreatShelf
import Derived.WalkLawsBesides
import Derived.WalkSpells
import Derived.Deep.LoopGhost
import Derived.Deep.QuietTactic
import Derived.BigQuiet
namespace Go.Ve
open Go Go.RowKit Go.Sort
set_option linter.unusedVariables false
def cmpRows : List Int → List Int → Int
 | [], [] => 0
 | [], _ :: _ => -1
 | _ :: _, [] => 1
 | x :: xs, y :: ys => if x < y then -1 else if y < x then 1 else cmpRows xs ys
theorem cmpRows_self : ∀ xs : List Int, cmpRows xs xs = 0
 | [] => rfl
 | x :: xs => by simp only [cmpRows, Int.lt_irrefl, if_false]; exact cmpRows_self xs
theorem cmpRows_eq : ∀ xs ys : List Int, cmpRows xs ys = 0 → xs = ys
 | [], [], _ => rfl
 | [], _ :: _, h => by simp [cmpRows] at h
 | _ :: _, [], h => by simp [cmpRows] at h
 | x :: xs, y :: ys, h => by
  simp only [cmpRows] at h
  split at h
  · omega
  · split at h
    · omega
    · rw [cmpRows_eq xs ys h, show x = y by omega]
theorem cmpRows_flip : ∀ xs ys : List Int, cmpRows ys xs = - cmpRows xs ys
 | [], [] => rfl
 | [], _ :: _ => rfl
 | _ :: _, [] => rfl
 | x :: xs, y :: ys => by
  simp only [cmpRows]
  by_cases h1 : x < y
  · rw [if_neg (by omega), if_pos h1, if_pos h1]; rfl
  · by_cases h2 : y < x
    · rw [if_pos h2, if_neg h1, if_pos h2]
    · rw [if_neg h2, if_neg h1, if_neg h1, if_neg h2]; exact cmpRows_flip xs ys
theorem cmpRows_trans : ∀ xs ys zs : List Int, cmpRows xs ys ≤ 0 → cmpRows ys zs ≤ 0 → cmpRows xs zs ≤ 0 ∧ (cmpRows xs zs = 0 → cmpRows xs ys = 0 ∧ cmpRows ys zs = 0)
 | [], [], [], _, _ => by simp [cmpRows]
 | [], [], _ :: _, _, _ => by simp [cmpRows]
 | [], _ :: _, [], _, h => by simp [cmpRows] at h
 | [], _ :: _, _ :: _, _, _ => by simp [cmpRows]
 | _ :: _, [], _, h, _ => by simp [cmpRows] at h
 | _ :: _, _ :: _, [], _, h => by simp [cmpRows] at h
 | x :: xs, y :: ys, z :: zs, h1, h2 => by
  simp only [cmpRows] at h1 h2 ⊢
  by_cases a1 : x < y
  · by_cases b1 : y < z
    · rw [if_pos a1, if_pos (show x < z by omega)]; exact ⟨by omega, fun h => by omega⟩
    · by_cases b2 : z < y
      · rw [if_neg b1, if_pos b2] at h2; omega
      · rw [if_pos a1, if_pos (show x < z by omega)]; exact ⟨by omega, fun h => by omega⟩
  · by_cases a2 : y < x
    · rw [if_neg a1, if_pos a2] at h1; omega
    · by_cases b1 : y < z
      · rw [if_pos (show x < z by omega)]; exact ⟨by omega, fun h => by omega⟩
      · by_cases b2 : z < y
        · rw [if_neg b1, if_pos b2] at h2; omega
        · rw [if_neg a1, if_neg a2] at h1
          rw [if_neg b1, if_neg b2] at h2
          rw [if_neg a1, if_neg a2, if_neg b1, if_neg b2, if_neg (show ¬ x < z by omega), if_neg (show ¬ z < x by omega)]
          exact cmpRows_trans xs ys zs h1 h2
def leRows (xs ys : List Int) : Bool := decide (cmpRows xs ys ≤ 0)
theorem leRows_trans (a b c : List Int) (h1 : leRows a b = true) (h2 : leRows b c = true) : leRows a c = true := by
 simp only [leRows, decide_eq_true_eq] at *
 exact (cmpRows_trans a b c h1 h2).1
theorem leRows_total (a b : List Int) : (leRows a b || leRows b a) = true := by
 have := cmpRows_flip a b
 simp only [leRows, Bool.or_eq_true, decide_eq_true_eq]
 omega
theorem leRows_antisymm (a b : List Int) (h1 : leRows a b = true) (h2 : leRows b a = true) : a = b := by
 have := cmpRows_flip a b
 simp only [leRows, decide_eq_true_eq] at h1 h2
 exact cmpRows_eq a b (by omega)
def sortRows (xs : List (List Int)) : List (List Int) := xs.mergeSort leRows
theorem cmpRows_drop {xs ys : List Int} {k : Nat} (h1 : k < xs.length) (h2 : k < ys.length) : cmpRows (xs.drop k) (ys.drop k) = if xs.getD k 0 < ys.getD k 0 then -1 else if ys.getD k 0 < xs.getD k 0 then 1 else cmpRows (xs.drop (k + 1)) (ys.drop (k + 1)) := by
 rw [List.drop_eq_getElem_cons h1, List.drop_eq_getElem_cons h2]
 simp only [cmpRows, List.getD_eq_getElem?_getD, List.getElem?_eq_getElem h1, List.getElem?_eq_getElem h2, Option.getD_some]
structure Aside0 (p : Prop) : Prop where
 out : p
def ReadsRow (w : World) (v : Value) (xs : List Int) : Prop := ∃ (A : Option Addr) (cap : Nat), v = .slice A xs.length cap ∧ xs.length ≤ 4611686018427387904 ∧ (0 < xs.length → ∃ ad, A = some ad ∧ ∀ j, j < xs.length → w.cell? (ad.add j) = some (.int .i64 (xs.getD j 0)))
end Go.Ve
namespace Go.Ve
open Go Go.RowKit Go.Sort Go.Proofs
theorem sworld_heap {α : Type} [Inhabited α] {enc : α → Value} {w : World} {n blk off : Nat} {d : Array α} {os : Array Obj} {b : Nat} (hb : b < w.heap.size) (hne : b ≠ blk) : (sortWorld enc w blk off n d os).heap[b]? = w.heap[b]? := by
 simp only [sortWorld, grow, putRow, mapBlock, heap_ahead]
 rw [Array.getElem?_append_left (by simpa using hb)]
 simp [Array.getElem?_modify, Ne.symm hne]
theorem sworld_here {α : Type} [Inhabited α] {enc : α → Value} {w : World} {n blk off : Nat} {d : Array α} {os : Array Obj} {c : Array Value} {e : TypeId} (hc : w.heap[blk]? = some (.cells c e (0, 0))) :
  (sortWorld enc w blk off n d os).heap[blk]? = some (.cells (putCells enc off d c) e (0, 0)) := by
 have hb : blk < w.heap.size := (Array.getElem?_eq_some_iff.1 hc).1
 simp only [sortWorld, grow, putRow, mapBlock, heap_ahead]
 rw [Array.getElem?_append_left (by simpa using hb)]
 simp [Array.getElem?_modify, hc, onCells]
theorem sworld_cell {α : Type} [Inhabited α] {enc : α → Value} {w : World} {n blk off : Nat} {d d0 : Array α} {os : Array Obj} (hb : blk < w.heap.size) (h0 : Holds enc w blk off d0) (hd : d.size = d0.size) {j : Nat} (hj : j < d.size) :
  (sortWorld enc w blk off n d os).cell? ⟨blk, off + j, none⟩ = some (enc d[j]!) := by
 have h := (holds_putRow enc (Sort.ahead w n) blk off d0 d (holds_ahead _ _ _ _ _ _ h0) hd j hj).1
 rw [← h]
 simp only [World.cell?, sortWorld, grow]
 rw [Array.getElem?_append_left (by simpa using hb)]
theorem row_reads {g : Gh} {w : World} {id : Id} {blk : Nat} (hown : g.own blk = some (some id, some [])) {m : Mask} {i : Nat} {xs : List Int} {cs : List Value} (hn : xs.length ≤ 4611686018427387904) (h : ORep g w none (some id) (.list I) m [.idx i] xs cs) :
  ∃ v, cs = [v] ∧ v.oneCell' = true ∧ ∀ w2 : World, (∀ b, b < w.heap.size → b ≠ blk → w2.heap[b]? = w.heap[b]?) → ReadsRow w2 v xs := by
 have shr : SRep g w (.list I) xs cs → ∃ v, cs = [v] ∧ v.oneCell' = true ∧ ∀ w2 : World, (∀ b, b < w.heap.size → b ≠ blk → w2.heap[b]? = w.heap[b]?) → ReadsRow w2 v xs := by
  intro h
  rcases h with ⟨h1, h2⟩ | ⟨a, cap, h1, h2, h3, h4⟩
  · have h2 : xs = [] := h2
    subst h2
    exact ⟨_, h1, rfl, fun w2 _ => ⟨none, 0, rfl, by simp, fun h => absurd h (by simp)⟩⟩
  · refine ⟨_, h1, rfl, fun w2 hw => ⟨some a, cap, rfl, hn, fun hp => ⟨a, rfl, fun j hj => ?_⟩⟩⟩
    obtain ⟨q1, q2, ds, q3, q4⟩ := h4 j hj
    have q4 : ds = [.int .i64 xs[j]] := q4
    subst q4
    have := q3 0 (by simp)
    rw [add_zero, show j * (Ty.int .i64).size = j by simp [Ty.size]] at this
    have hne : a.block ≠ blk := fun e => by rw [e, hown] at q1; cases q1
    rw [World.cell?_of_block (w := w) (by rw [add_block]; exact hw _ q2 hne)]
    simpa [hj] using this
 cases m with
 | shr => exact shr h
 | prod a b => exact shr h
 | own m =>
  rcases h with ⟨h1, _⟩ | ⟨_, h2, h3⟩
  · cases h1
  · rcases h3 with ⟨h3, h4⟩ | ⟨a, cap, c, e, q1, q2, q3, q4, q5, q6, q7, q8⟩
    · have h4 : xs = [] := List.eq_nil_of_length_eq_zero h4
      subst h4
      exact ⟨_, h2, by rw [h3]; rfl, fun w2 _ => ⟨none, 0, by rw [h3]; rfl, by simp, fun h => absurd h (by simp)⟩⟩
    · refine ⟨_, h2, by rw [q1]; rfl, fun w2 hw => ⟨some a, cap, by rw [q1], hn, fun hp => ⟨a, rfl, fun j hj => ?_⟩⟩⟩
      obtain ⟨ds, d1, _, d2⟩ := q8 j hj
      have d2 : ds = [.int .i64 xs[j]] := ORep.plain _ _ _ _ _ rfl d2
      subst d2
      have := d1 0 (by simp)
      rw [add_zero, show j * (Ty.int .i64).size = j by simp [Ty.size]] at this
      have hne : a.block ≠ blk := fun e => by rw [e, hown] at q3; simp at q3
      rw [World.cell?_of_block (w := w) (by rw [add_block]; exact hw _ (block_lt q4) hne)]
      simpa [hj] using this
def _root_.Go.Ve.Gh.perm (g : Gh) (id : Id) (f fi : Nat → Nat) : Gh where
 hdr i p := if i = some id then match p with
  | .idx j :: r => g.hdr i (.idx (f j) :: r)
  | p => g.hdr i p
  else g.hdr i p
 base := g.base
 own b := match g.own b with
  | some (some i, some (.idx j :: r)) => if i = id then some (some i, some (.idx (fi j) :: r)) else some (some i, some (.idx j :: r))
  | o => o
variable {g : Gh} {id : Id} {f fi : Nat → Nat}
theorem perm_none {b : Nat} (h : g.own b = none) : (g.perm id f fi).own b = none := by simp [Gh.perm, h]
theorem perm_hid {b : Nat} (h : g.own b = some (none, none)) : (g.perm id f fi).own b = some (none, none) := by simp [Gh.perm, h]
theorem perm_root {b : Nat} (h : g.own b = some (some id, some [])) : (g.perm id f fi).own b = some (some id, some []) := by simp [Gh.perm, h]
theorem perm_row {b j : Nat} {r : List Step} (h : g.own b = some (some id, some (.idx j :: r))) : (g.perm id f fi).own b = some (some id, some (.idx (fi j) :: r)) := by simp [Gh.perm, h]
theorem perm_some {b : Nat} {o} (h : (g.perm id f fi).own b = some o) : ∃ o', g.own b = some o' := by
 cases e : g.own b with
 | none => simp [Gh.perm, e] at h
 | some o => exact ⟨o, rfl⟩
theorem vals_two {g : Gh} {w : World} {i : Nat} {x y : Arg} {vals : Array Value} (h : ArgsRep g w i [x, y] vals.toList) : ∃ v u, vals = #[v, u] ∧ ArgRep g w i x v ∧ ArgRep g w (i + 1) y u := by
 match hl : vals.toList with
 | [] => rw [hl] at h; exact h.elim
 | [v] => rw [hl] at h; exact h.2.elim
 | [v, u] => rw [hl] at h; exact ⟨v, u, by apply Array.ext'; simpa using hl, h.1, h.2.1⟩
 | _ :: _ :: _ :: _ => rw [hl] at h; exact h.2.2.elim
theorem sortRows_contract {P : Program} {f cf : FuncId} (hf : ∃ fn c, P.funcs[f]? = some fn ∧ (fn.name == "runtime.NumGoroutine") = false ∧ fn.body = some c)
  (hS : ∀ (enc : Nat → Value) (h1 : OneCell enc) (cmp : Nat → Nat → Int) (hO : SWO (ltOf cmp)) (blk off cap : Nat) (d : Array Nat) (w : World), CmpLays1 P cf #[] enc cmp blk off d.size w → Holds enc w blk off d → blk < w.heap.size → d.size < 4611686018427387904 →
   Calls P f #[.slice (some ⟨blk, off, none⟩) d.size cap, .func (.func cf) #[] #[]] w fun e w' => e = .returned (.tuple #[]) ∧ ∃ d' n os, PermIn 0 d.size d d' ∧ SortedIn (ltOf cmp) 0 d.size d' ∧ w' = sortWorld enc w blk off n d' os)
  (hN : ∀ (p : Option Addr) (cap : Nat) (fv : Value) (w : World), Calls P f #[.slice p 0 cap, fv] w fun e w' => e = .returned (.tuple #[]) ∧ w' = w)
  (hC : ∀ (A B : Option Addr) (c d : Nat) (xs ys : List Int) (w : World), xs.length ≤ 4611686018427387904 → ys.length ≤ 4611686018427387904 →
   (0 < xs.length → ∃ ad, A = some ad ∧ ∀ j, j < xs.length → w.cell? (ad.add j) = some (.int .i64 (xs.getD j 0))) →
   (0 < ys.length → ∃ ad, B = some ad ∧ ∀ j, j < ys.length → w.cell? (ad.add j) = some (.int .i64 (ys.getD j 0))) →
   Calls P cf #[.slice A xs.length c, .slice B ys.length d] w fun e w' => e = .returned (.int .i64 (cmpRows xs ys)) ∧ ∃ q, w' = w.drewN q)
  (m : Mask) (xs : List (List Int)) (hx : xs.length < 4611686018427387904) (hr : ∀ x ∈ xs, x.length ≤ 4611686018427387904) :
  Contract P f [.ext 0, .fn cf []] [.vec m (.list I) xs] [] [.vec m (.list I) (sortRows xs)] := by
 refine ⟨hf, fun g w vals hlv hargs hobs => ?_⟩
 obtain ⟨v, u, rfl, e1, e2⟩ := vals_two hargs
 have e1 : v = g.hdr (some (extId 0)) [] := e1
 have e2 : u = .func (.func cf) #[] #[] := e2
 subst e1; subst e2
 rcases hobs 0 _ rfl with ⟨h1, h2⟩ | ⟨a, cap, c, e, h1, h2, h3, h4, h5, h6, h7, h8⟩
 · obtain rfl : xs = [] := List.length_eq_zero_iff.1 h2
   rw [h1]
   refine (hN none 0 _ w).mono ?_
   rintro _ _ ⟨rfl, rfl⟩
   refine ⟨_, g, rfl, Le.refl _ _, hlv, ⟨[], trivial, rfl⟩, rfl, fun k o o' q1 q2 => ?_⟩
   cases k with
   | zero =>
    simp only [List.getElem?_cons_zero, Option.some.injEq] at q1 q2
    subst q1; subst q2
    exact ⟨rfl, .inl ⟨h1, by simp [sortRows]⟩, rfl, fun _ => rfl⟩
   | succ k => simp at q1
 · have hb : a.block < w.heap.size := (Array.getElem?_eq_some_iff.1 h4).1
   have ha : a = ⟨a.block, a.off, none⟩ := by obtain ⟨b, o, sp⟩ := a; subst h2; rfl
   let n := xs.length
   let row : Nat → List Int := fun i => xs.getD i []
   have hrow : ∀ i, i < n → ∃ v, (w.cell? (a.add i) = some v) ∧ v.oneCell' = true ∧ ORep g w none (some (extId 0)) (.list I) m [.idx i] (row i) [v] ∧ ∀ w2 : World, (∀ b, b < w.heap.size → b ≠ a.block → w2.heap[b]? = w.heap[b]?) → ReadsRow w2 v (row i) := by
    intro i hi
    obtain ⟨ds, d1, hi', d2⟩ := h8 i hi
    have er : row i = xs[i] := by simp [row, List.getD_eq_getElem?_getD, List.getElem?_eq_getElem hi']
    have d2 : ORep g w none (some (extId 0)) (.list I) m [.idx i] (row i) ds := by rw [er]; exact d2
    obtain ⟨v, rfl, q1, q2⟩ := row_reads h3 (by rw [er]; exact hr _ (List.getElem_mem _)) d2
    have := d1 0 (by simp)
    rw [add_zero, show i * (Ty.list I).size = i by simp [Ty.size]] at this
    exact ⟨v, by simpa using this, q1, d2, q2⟩
   let enc : Nat → Value := fun i => if i < n then (w.cell? (a.add i)).getD (.slice none 0 0) else .slice none 0 0
   have henc : ∀ i, i < n → (w.cell? (a.add i) = some (enc i)) ∧ (enc i).oneCell' = true ∧ ORep g w none (some (extId 0)) (.list I) m [.idx i] (row i) [enc i] ∧ ∀ w2 : World, (∀ b, b < w.heap.size → b ≠ a.block → w2.heap[b]? = w.heap[b]?) → ReadsRow w2 (enc i) (row i) := by
    intro i hi
    obtain ⟨v, q1, q2⟩ := hrow i hi
    have : enc i = v := by simp [enc, hi, q1]
    rw [this]; exact ⟨q1, q2⟩
   have hout : ∀ i, ¬ i < n → enc i = .slice none 0 0 ∧ row i = [] := fun i hi => ⟨by simp [enc, hi], by simp only [row, List.getD_eq_getElem?_getD]; rw [List.getElem?_eq_none (by show xs.length ≤ i; omega)]; rfl⟩
   have one : OneCell enc := fun i => by
    by_cases hi : i < n
    · exact (henc i hi).2.1
    · rw [(hout i hi).1]; rfl
   let cmp : Nat → Nat → Int := fun i j => cmpRows (row i) (row j)
   have hO : SWO (ltOf cmp) := by
    refine ⟨fun x => by simp [ltOf, cmp, cmpRows_self], fun x y z h1 h2 => ?_, fun x y z h1 h2 => ?_⟩
    · simp only [ltOf, cmp, decide_eq_true_eq] at *
      have t := cmpRows_trans (row x) (row y) (row z) (by omega) (by omega)
      rcases Int.lt_or_eq_of_le t.1 with h | h
      · exact h
      · have := (t.2 h).1; omega
    · simp only [ltOf, cmp, decide_eq_false_iff_not, Int.not_lt] at *
      have f1 := cmpRows_flip (row x) (row y)
      have f2 := cmpRows_flip (row y) (row z)
      have f3 := cmpRows_flip (row x) (row z)
      have t := (cmpRows_trans (row z) (row y) (row x) (by omega) (by omega)).1
      omega
   let d : Array Nat := Array.range n
   have hds : d.size = n := by simp [d]
   have hread : ∀ (W : World), (∀ b, b < w.heap.size → b ≠ a.block → W.heap[b]? = w.heap[b]?) → ∀ i, ReadsRow W (enc i) (row i) := fun W hW i => by
    by_cases hi : i < n
    · exact (henc i hi).2.2.2 W hW
    · rw [(hout i hi).1, (hout i hi).2]; exact ⟨none, 0, rfl, by simp, fun h => absurd h (by simp)⟩
   have hcl : CmpLays1 P cf #[] enc cmp a.block a.off d.size w := by
    intro k os dk hs x y
    have hW : ∀ b, b < w.heap.size → b ≠ a.block → (sortWorld enc w a.block a.off k dk os).heap[b]? = w.heap[b]? := fun b q1 q2 => sworld_heap q1 q2
    obtain ⟨A, ca, ea, la, ra⟩ := hread _ hW x
    obtain ⟨B, cb, eb, lb, rb⟩ := hread _ hW y
    show Calls P cf (#[enc x, enc y] ++ #[]) _ _
    rw [ea, eb]
    refine (hC A B ca cb (row x) (row y) _ la lb ra rb).mono ?_
    rintro _ _ ⟨rfl, q, rfl⟩
    exact ⟨rfl, q, #[], by rw [grow_empty]⟩
   have hH : Holds enc w a.block a.off d := by
    intro j hj
    have hj : j < n := by simpa [d] using hj
    have hd : d[j]! = j := by simp [d, hj]
    rw [hd]
    refine ⟨?_, by simp [World.frozen?, h4]⟩
    have := (henc j hj).1
    rwa [ha, add_eq (by rfl)] at this
   rw [h1, ha, show List.length xs = d.size from hds.symm]
   refine (hS enc one cmp hO a.block a.off cap d w hcl hH hb (by rw [hds]; exact hx)).mono ?_
   rintro _ _ ⟨rfl, d', k, os, hP, hT, rfl⟩
   obtain ⟨p1, _, p3⟩ := hP
   have p1 : d'.size = n := p1.trans hds
   have p3 : d'.toList.Perm (List.range n) := by
    rw [show d.size = d'.size from by rw [p1, hds], Array.extract_size, show d'.size = d.size by rw [p1, hds], Array.extract_size] at p3
    simpa [d] using p3
   -- the rows in their new places
   have hrows : d'.toList.map row = sortRows xs := by
    have hs : (d'.toList.map row).Pairwise (fun x y => leRows x y = true) := by
     rw [List.pairwise_map, List.pairwise_iff_getElem]
     intro i j hi hj hij
     have := hT i j (Nat.zero_le _) hij (by rw [hds, ← p1]; simpa using hj)
     simp only [ltOf, cmp, decide_eq_false_iff_not, Int.not_lt] at this
     have hi' : i < d'.size := by simpa using hi
     have hj' : j < d'.size := by simpa using hj
     rw [getElem!_pos d' i hi', getElem!_pos d' j hj'] at this
     simp only [leRows, decide_eq_true_eq, Array.getElem_toList]
     have f1 := cmpRows_flip (row d'[i]) (row d'[j])
     omega
    have hp : (d'.toList.map row).Perm (sortRows xs) := by
     refine (p3.map row).trans ?_
     have : (List.range n).map row = xs := by
      apply List.ext_getElem
      · simp [n]
      · intro i h1 h2
        simp [row, List.getD_eq_getElem?_getD, List.getElem?_eq_getElem h2]
     rw [this]
     exact (List.mergeSort_perm _ _).symm
    refine List.Perm.eq_of_pairwise (le := fun x y => leRows x y = true) (fun x y _ _ h1 h2 => leRows_antisymm x y h1 h2) hs ?_ hp
    exact List.pairwise_mergeSort (fun a b c => leRows_trans a b c) (fun a b => leRows_total a b) xs
   have hnd : d'.toList.Nodup := p3.nodup_iff.2 List.nodup_range
   let F : Nat → Nat := fun i => d'[i]!
   let Fi : Nat → Nat := fun j => d'.toList.idxOf j
   have hF : ∀ i, i < n → F i < n := fun i hi => by
    have hi' : i < d'.size := by omega
    have : d'[i] ∈ d'.toList := by simp
    have := (p3.mem_iff).1 this
    simp only [F, getElem!_pos d' i hi']
    simpa using this
   have hFi : ∀ i, i < n → Fi (F i) = i := fun i hi => by
    have hi' : i < d'.size := by omega
    simp only [F, Fi, getElem!_pos d' i hi']
    have hi2 : i < d'.toList.length := by simpa using hi'
    have := hnd.idxOf_getElem i hi2
    simpa using this
   let g' := g.perm (extId 0) F Fi
   have hW : ∀ b, b < w.heap.size → b ≠ a.block → (sortWorld enc w a.block a.off k d' os).heap[b]? = w.heap[b]? := fun b q1 q2 => sworld_heap q1 q2
   have hle : Le g w g' (sortWorld enc w a.block a.off k d' os) := ⟨rfl, rfl, rfl, by simp [sortWorld, grow],
    fun b hb' ho => ⟨hW b hb' (fun e => by rw [e, h3] at ho; cases ho), perm_none ho⟩, fun b hb' ho => ⟨hW b hb' (fun e => by rw [e, h3] at ho; cases ho), perm_hid ho⟩⟩
   have hlen : (sortRows xs).length = n := by simp [sortRows, n]
   refine ⟨_, g', rfl, hle, fun b o ho => ?_, ⟨[], trivial, rfl⟩, rfl, fun k' o o' q1 q2 => ?_⟩
   · obtain ⟨o', ho'⟩ := perm_some ho
     exact Nat.lt_of_lt_of_le (hlv b o' ho') (by simp [sortWorld, grow])
   · cases k' with
     | succ k => simp at q1
     | zero =>
      simp only [List.getElem?_cons_zero, Option.some.injEq] at q1 q2
      subst q1; subst q2
      have hh : g'.hdr (some (extId 0)) [] = g.hdr (some (extId 0)) [] := by simp [g', Gh.perm]
      refine ⟨rfl, .inr ⟨a, cap, putCells enc a.off d' c, e, by rw [hh, h1, hlen], h2, perm_root h3, sworld_here h4, by rw [hlen]; exact h5, h6, by simpa [putCells] using h7, fun i hi => ?_⟩, rfl, fun _ => hh⟩
      have hi2 : i < n := by rw [← hlen]; exact hi
      have hi' : i < d'.size := by omega
      refine ⟨[enc (F i)], fun j hj => ?_, hi, ?_⟩
      · have hj : j = 0 := by simpa using hj
        subst hj
        have := sworld_cell (n := k) (os := os) (d := d') hb hH (by rw [p1, hds]) (j := i) hi'
        rw [add_zero, show i * (Ty.list I).size = i by simp [Ty.size], ha, add_eq (by rfl)]
        simpa [F] using this
      · have er : (sortRows xs)[i] = row (F i) := by
         have h1 : i < (d'.toList.map row).length := by simpa using hi'
         have : (d'.toList.map row)[i] = row (F i) := by simp [F, getElem!_pos d' i hi']
         rw [← this]
         congr 1
         exact hrows.symm
        rw [er]
        refine ORep.move hle (.list I) m [.idx (F i)] [.idx i] _ _ ⟨fun q => ?_, fun b q ho => ⟨hW b (hlv b _ ho) (fun e => by rw [e, h3] at ho; simp at ho), ?_⟩, fun q => by simp⟩ (henc (F i) (hF i hi2)).2.2.1
        · simp [g', Gh.perm]
        · have := perm_row (f := F) (fi := Fi) (r := q) ho
          rw [hFi i hi2] at this
          exact this
noncomputable def sortRowsFn (f cf : FuncId) (m : Mask) : Fn := ⟨f, [.ext 0, .fn cf []], [.vec m (.list I)], ⟨[], [.vec m (.list I)]⟩, fun _ y => guardB (decide (List.length y.1 < 4611686018427387904) && y.1.all fun r : List Int => decide (r.length ≤ 4611686018427387904)) (some ((), (sortRows y.1, ())))⟩
theorem sortRowsFn_says {P : Program} {f cf : FuncId} {m : Mask} (h : ∀ xs : List (List Int), xs.length < 4611686018427387904 → (∀ x ∈ xs, x.length ≤ 4611686018427387904) → Contract P f [.ext 0, .fn cf []] [.vec m (.list I) xs] [] [.vec m (.list I) (sortRows xs)]) : (sortRowsFn f cf m).Says P := by
 intro x y p hp
 obtain ⟨hg, hp⟩ := guardB_some hp
 injection hp with hp
 subst hp
 simp only [Bool.and_eq_true, decide_eq_true_eq, List.all_eq_true] at hg
 exact h y.1 hg.1 hg.2
end Go.Ve
namespace Go.Ve
open Go Go.RowKit Go.Sort Go.Proofs
section
variable {P : Program} {ops : Array Oper} {Q : Exit → Act → World → Prop}
theorem pick1 {S : World → Prop} {i : Nat} {oi : Oper} {v : Value} {fuel : Nat} {T : Obl} {l l' : Array Bool} {a a' : Act} {w : World} (ho : ops[i]? = some oi) (hsel : Region.noSelect ops = true)
  (hok : ((Region.ready .any ops l).contains i && Region.free .any ops l i && l.setIfInBounds i true == l') = true) (hQ : ∀ c a w, Q (.panic c) (a.put oi.dst v) w → Q (.panic c) a w) (hw : Region.wanted oi (yielded ops a.tmps) = true)
  (hy : ∀ w', S w' → (execOp a.eval oi).run P w' = .ok (.value v) w') (hS : S w) (hT : ∀ t ∈ T, t.1 = S) (ha : a.put oi.dst v = a') (k : ∀ T' : Obl, (∀ t ∈ T', t.1 = S) → wpAnyG P .any ops Q fuel T' l' a' w) : wpAnyG P .any ops Q (fuel + 1) T l a w := by
 simp only [Bool.and_eq_true, beq_iff_eq] at hok
 obtain ⟨⟨h1, h2⟩, h3⟩ := hok
 subst ha
 subst h3
 exact wpAnyG_first (S := S) (C := fun _ => true) ho (Region.noSelect_spec hsel) hQ fuel T l a w (Region.free_spec ho h2) (fun j oj _ _ _ h => by cases h) (by simpa using h1) (.inl ⟨hw, hy⟩) hS (fun t ht _ => by rw [hT t ht]; exact hS)
  (k _ fun t ht => by
   rcases List.mem_cons.1 ht with rfl | ht
   · rfl
   · exact hT t ht)
theorem sole1 {S : World → Prop} {i : Nat} {oi : Oper} {fuel : Nat} {T : Obl} {l l' : Array Bool} {a : Act} {w : World} (ho : ops[i]? = some oi) (hok : (Region.ready .any ops l == [i] && l.setIfInBounds i true == l') = true) (hw : Region.wanted oi (yielded ops a.tmps) = true) (hT : ∀ t ∈ T, t.1 = S)
  (k : ∀ K : Act → World → Prop, (∀ a' w', S w' → (∀ T' : Obl, (∀ t ∈ T', t.1 = S) → wpAnyG P .any ops Q fuel T' l' a' w') → K a' w') → oi.wp P a w K Q) : wpAnyG P .any ops Q (fuel + 1) T l a w := by
 simp only [Bool.and_eq_true, beq_iff_eq] at hok
 obtain ⟨h1, h3⟩ := hok
 subst h3
 refine ⟨fun h => (by rw [h1] at h; cases h), fun j hj => ?_⟩
 rw [h1, List.mem_singleton] at hj
 subst hj
 unfold wpOp
 rw [ho]
 simp only [hw, if_true]
 refine .inl (k _ fun a' w' h1 h2 => ⟨fun t ht _ => by rw [hT t ht]; exact h1, h2 _ fun t ht => ?_⟩)
 exact hT t (List.mem_filter.1 ht).1
theorem all1 {fuel : Nat} {T : Obl} {l : Array Bool} {a : Act} {w : World} (hr : (Region.ready .any ops l == []) = true) (h : Q .normal a w) : wpAnyG P .any ops Q fuel T l a w := wpAnyG_done (by simpa using hr) h fuel
theorem begin1 {id : Nat} {a : Act} {w : World} (hm : P.follows .mixedOrders = true) (h : ∀ T : Obl, T = [] → wpAnyG P .any ops Q ops.size T (Array.replicate ops.size false) a (w.drewN 1)) : (Code.region id ops true).wp P Q a w :=
 wp_region_any hm (wpAny_of_G _ [] _ _ _ (h [] rfl))
end
def cmpPair (x y : Int × Int) : Int := if x.1 < y.1 then -1 else if y.1 < x.1 then 1 else if x.2 < y.2 then -1 else if y.2 < x.2 then 1 else 0
def lePairs (x y : Int × Int) : Bool := decide (cmpPair x y ≤ 0)
def sortPairs (xs : List (Int × Int)) : List (Int × Int) := xs.mergeSort lePairs
theorem cmpPair_flip (x y : Int × Int) : cmpPair y x = - cmpPair x y := by
 simp only [cmpPair]
 split <;> (try split) <;> (try split) <;> (try split) <;> (try split) <;> (try split) <;> (try split) <;> omega
theorem cmpPair_lt {x y : Int × Int} : cmpPair x y < 0 ↔ (x.1 < y.1 ∨ (x.1 = y.1 ∧ x.2 < y.2)) := by
 simp only [cmpPair]
 split <;> (try split) <;> (try split) <;> (try split) <;> omega
theorem swo_pair : SWO (ltOf cmpPair) := by
 refine ⟨fun x => ?_, fun x y z h1 h2 => ?_, fun x y z h1 h2 => ?_⟩
 · simp only [ltOf, decide_eq_false_iff_not, cmpPair_lt]; omega
 · simp only [ltOf, decide_eq_true_eq, cmpPair_lt] at *; omega
 · simp only [ltOf, decide_eq_false_iff_not, cmpPair_lt] at *; omega
theorem pair_total (x y : Int × Int) (h1 : (ltOf cmpPair) x y = false) (h2 : (ltOf cmpPair) y x = false) : x = y := by
 simp only [ltOf, decide_eq_false_iff_not, cmpPair_lt] at *
 exact Prod.ext (by omega) (by omega)
theorem lePairs_eq : (fun x y => !(ltOf cmpPair) y x) = lePairs := by
 funext x y
 have := cmpPair_flip x y
 simp only [ltOf, lePairs]
 by_cases h : cmpPair x y ≤ 0
 · rw [decide_eq_true h, decide_eq_false (by omega)]; rfl
 · rw [decide_eq_false h, decide_eq_true (by omega)]; rfl
def encPair (x : Int × Int) : List Value := [.int .i64 x.1, .int .i64 x.2]
theorem flat_at {d : Array (Int × Int)} {i : Nat} (h : i < d.size) : (flatK encPair 2 d)[i * 2]! = .int .i64 d[i]!.1 ∧ (flatK encPair 2 d)[i * 2 + 1]! = .int .i64 d[i]!.2 := by
 rw [get_flatK _ _ _ _ (by omega), get_flatK _ _ _ _ (by omega), show i * 2 / 2 = i by omega, show i * 2 % 2 = 0 by omega, show (i * 2 + 1) / 2 = i by omega, show (i * 2 + 1) % 2 = 1 by omega]
 exact ⟨rfl, rfl⟩
set_option maxHeartbeats 2000000 in
theorem sortPairs_contract {P : Program} {f cf : FuncId} (hf : ∃ fn c, P.funcs[f]? = some fn ∧ (fn.name == "runtime.NumGoroutine") = false ∧ fn.body = some c)
  (hS : ∀ (blk off cap : Nat) (d : Array (Int × Int)) (w : World), CmpLays P cf #[] encPair 2 cmpPair blk off d.size w → HoldsK encPair 2 w blk off d → blk < w.heap.size → d.size < 4611686018427387904 →
   Calls P f #[.slice (some ⟨blk, off, none⟩) d.size cap, .func (.func cf) #[] #[]] w fun e w' => e = .returned (.tuple #[]) ∧ ∃ n os, w' = sortWorldK encPair 2 w blk off n (d.toList.mergeSort fun x y => !(ltOf cmpPair) y x).toArray os)
  (hN : ∀ (p : Option Addr) (cap : Nat) (fv : Value) (w : World), Calls P f #[.slice p 0 cap, fv] w fun e w' => e = .returned (.tuple #[]) ∧ w' = w)
  (hC : ∀ (x y : Int × Int) (w : World), Calls P cf #[.agg #[.int .i64 x.1, .int .i64 x.2], .agg #[.int .i64 y.1, .int .i64 y.2]] w fun e w' => e = .returned (.int .i64 (cmpPair x y)) ∧ ∃ q os, w' = grow (w.drewN q) os)
  (xs : List (Int × Int)) (hx : xs.length < 4611686018427387904) :
  Contract P f [.ext 0, .fn cf []] [.vec .shr (.prod I I) xs] [] [.vec .shr (.prod I I) (sortPairs xs)] := by
 refine ⟨hf, fun g w vals hlv hargs hobs => ?_⟩
 obtain ⟨v, u, rfl, e1, e2⟩ := vals_two hargs
 have e1 : v = g.hdr (some (extId 0)) [] := e1
 have e2 : u = .func (.func cf) #[] #[] := e2
 subst e1; subst e2
 rcases hobs 0 _ rfl with ⟨h1, h2⟩ | ⟨a, cap, c, e, h1, h2, h3, h4, h5, h6, h7, h8⟩
 · obtain rfl : xs = [] := List.length_eq_zero_iff.1 h2
   rw [h1]
   refine (hN none 0 _ w).mono ?_
   rintro _ _ ⟨rfl, rfl⟩
   refine ⟨_, g, rfl, Le.refl _ _, hlv, ⟨[], trivial, rfl⟩, rfl, fun k o o' q1 q2 => ?_⟩
   cases k with
   | zero =>
    simp only [List.getElem?_cons_zero, Option.some.injEq] at q1 q2
    subst q1; subst q2
    exact ⟨rfl, .inl ⟨h1, by simp [sortPairs]⟩, rfl, fun _ => rfl⟩
   | succ k => simp at q1
 · have hb : a.block < w.heap.size := (Array.getElem?_eq_some_iff.1 h4).1
   have ha : a = ⟨a.block, a.off, none⟩ := by obtain ⟨b, o, sp⟩ := a; subst h2; rfl
   have hz : (Ty.prod I I).size = 2 := rfl
   have hcell : ∀ i, (h : i < xs.length) → w.cell? ⟨a.block, a.off + i * 2, none⟩ = some (.int .i64 xs[i].1) ∧ w.cell? ⟨a.block, a.off + (i * 2 + 1), none⟩ = some (.int .i64 xs[i].2) := by
    intro i hi
    obtain ⟨ds, d1, hi', d2⟩ := h8 i hi
    obtain ⟨c1, c2, e', k1, k2⟩ := ORep.plain _ _ _ _ _ rfl d2
    have k1 : c1 = [.int .i64 xs[i].1] := k1
    have k2 : c2 = [.int .i64 xs[i].2] := k2
    subst k1 k2
    have e' : ds = [.int .i64 xs[i].1, .int .i64 xs[i].2] := e'
    subst e'
    have q0 := d1 0 (by simp)
    have q1 := d1 1 (by simp)
    rw [hz] at q0 q1
    rw [ha, add_add (by rfl), add_eq (by rfl)] at q0 q1
    exact ⟨by simpa using q0, by simpa [Nat.add_assoc] using q1⟩
   have hH : HoldsK encPair 2 w a.block a.off xs.toArray := by
    intro t ht
    have ht : t < xs.length * 2 := by simpa using ht
    have main : ∀ i, (hi : i < xs.length) → (w.cell? ⟨a.block, a.off + i * 2, none⟩ = some (id (flatK encPair 2 xs.toArray)[i * 2]!)) ∧ (w.cell? ⟨a.block, a.off + (i * 2 + 1), none⟩ = some (id (flatK encPair 2 xs.toArray)[i * 2 + 1]!)) := by
     intro i hi
     obtain ⟨q1, q2⟩ := hcell i hi
     obtain ⟨f1, f2⟩ := flat_at (d := xs.toArray) (i := i) (by simpa using hi)
     have hx0 : xs.toArray[i]! = xs[i] := by simp [hi]
     rw [hx0] at f1 f2
     rw [f1, f2]
     exact ⟨q1, q2⟩
    refine ⟨?_, by simp [World.frozen?, h4]⟩
    obtain ⟨i, e' | e'⟩ : ∃ i, t = i * 2 ∨ t = i * 2 + 1 := ⟨t / 2, by omega⟩
    · subst e'; exact (main i (by omega)).1
    · subst e'; exact (main i (by omega)).2
   have hcl : CmpLays P cf #[] encPair 2 cmpPair a.block a.off xs.toArray.size w := by
    unfold CmpLays
    intro m os dk hs x y
    have e0 : (#[Value.agg (encPair x).toArray, Value.agg (encPair y).toArray] ++ (#[] : Array Value)) = #[.agg #[.int .i64 x.1, .int .i64 x.2], .agg #[.int .i64 y.1, .int .i64 y.2]] := by simp [encPair]
    rw [e0]
    generalize sortWorldK encPair 2 w a.block a.off m dk os = W
    exact hC x y W
   rw [h1, ha, show List.length xs = xs.toArray.size by simp]
   refine (hS a.block a.off cap xs.toArray w hcl hH hb (by simpa using hx)).mono ?_
   rintro _ _ ⟨rfl, n, os, rfl⟩
   rw [lePairs_eq]
   have hys : xs.toArray.toList.mergeSort lePairs = sortPairs xs := by simp [sortPairs]
   rw [hys]
   have hl : (sortPairs xs).length = xs.length := by simp [sortPairs]
   generalize sortPairs xs = ys at hl ⊢
   have hW : ∀ b, b < w.heap.size → b ≠ a.block → (sortWorldK encPair 2 w a.block a.off n ys.toArray os).heap[b]? = w.heap[b]? := fun b q1 q2 => sworld_heap (enc := id) (d := flatK encPair 2 ys.toArray) q1 q2
   refine ⟨_, g, rfl, ⟨rfl, rfl, rfl, by simp [sortWorldK, putRowK, grow], fun b hb' ho => ⟨hW b hb' (fun e => by subst e; rw [h3] at ho; cases ho), ho⟩, fun b hb' ho => ⟨hW b hb' (fun e => by subst e; rw [h3] at ho; cases ho), ho⟩⟩,
    fun b o ho => Nat.lt_of_lt_of_le (hlv b o ho) (by simp [sortWorldK, putRowK, grow]), ⟨[], trivial, rfl⟩, rfl, fun k o o' q1 q2 => ?_⟩
   cases k with
   | succ k => simp at q1
   | zero =>
    simp only [List.getElem?_cons_zero, Option.some.injEq] at q1 q2
    subst q1; subst q2
    refine ⟨rfl, .inr ⟨a, cap, putCells id a.off (flatK encPair 2 ys.toArray) c, e, by rw [h1]; simp [hl], h2, h3, sworld_here (enc := id) (d := flatK encPair 2 ys.toArray) h4, by simpa [hl] using h5, h6, by simpa [putCells] using h7, fun i hi => ?_⟩, rfl, fun _ => rfl⟩
    have hi' : i < ys.length := hi
    have hsz : (flatK encPair 2 ys.toArray).size = (flatK encPair 2 xs.toArray).size := by simp [hl]
    obtain ⟨f1, f2⟩ := flat_at (d := ys.toArray) (i := i) (by simpa using hi')
    have hy0 : ys.toArray[i]! = ys[i] := by simp [hi']
    rw [hy0] at f1 f2
    have c1 := sworld_cell (enc := id) (n := n) (os := os) (d := flatK encPair 2 ys.toArray) hb hH hsz (j := i * 2) (by simp; omega)
    have c2 := sworld_cell (enc := id) (n := n) (os := os) (d := flatK encPair 2 ys.toArray) hb hH hsz (j := i * 2 + 1) (by simp; omega)
    rw [f1] at c1
    rw [f2] at c2
    refine ⟨[.int .i64 ys[i].1, .int .i64 ys[i].2], fun j hj => ?_, hi', ORep.of_plain _ _ _ _ _ rfl ⟨[_], [_], rfl, rfl, rfl⟩⟩
    rw [hz, ha, add_add (by rfl), add_eq (by rfl)]
    have hj : j = 0 ∨ j = 1 := by simp at hj; omega
    have hw : sortWorldK encPair 2 w a.block a.off n ys.toArray os = sortWorld id w a.block a.off n (flatK encPair 2 ys.toArray) os := rfl
    rw [hw]
    rcases hj with rfl | rfl
    · simpa using c1
    · simpa [Nat.add_assoc] using c2
noncomputable def sortPairsFn (f cf : FuncId) : Fn := ⟨f, [.ext 0, .fn cf []], [.vec .shr (.prod I I)], ⟨[], [.vec .shr (.prod I I)]⟩, fun _ y => guardB (decide (List.length y.1 < 4611686018427387904)) (some ((), (sortPairs y.1, ())))⟩
theorem sortPairsFn_says {P : Program} {f cf : FuncId} (h : ∀ xs : List (Int × Int), xs.length < 4611686018427387904 → Contract P f [.ext 0, .fn cf []] [.vec .shr (.prod I I) xs] [] [.vec .shr (.prod I I) (sortPairs xs)]) : (sortPairsFn f cf).Says P := by
 intro x y p hp
 obtain ⟨hg, hp⟩ := guardB_some hp
 injection hp with hp
 subst hp
 exact h y.1 (by simpa using hg)
end Go.Ve
namespace Go.Proofs
open Go.RowKit Go.Shelf
attribute [local go_sem] Oper.semAt_some
def Vi.upto {α : Type} (f : Nat → α) (k : Nat) : List α := (List.range k).map f
theorem Vi.upto_succ {α : Type} (f : Nat → α) (k : Nat) : Vi.upto f (k + 1) = Vi.upto f k ++ [f k] := by simp [Vi.upto, List.range_succ]
theorem Vi.upto_length {α : Type} (f : Nat → α) (k : Nat) : (Vi.upto f k).length = k := by simp [Vi.upto]
theorem Vi.upto_all (zs : List Int) : Vi.upto (fun j => zs[j]?.getD 0) zs.length = zs := by
 apply List.ext_getElem
 · simp [Vi.upto]
 · intro i h1 h2
   simp [Vi.upto, h2]
set_option maxRecDepth 100000 in
set_option maxHeartbeats 2000000 in
theorem Vi.values1_in (F : Fence) (n : Nat) (h153 : F.fn 328) (hro : F.round = none) (hn : 1 ≤ n) (l Bs Bo n₀ b off len cap : Nat) (zs : List Int) (hreach : len * 8 ≤ 140737488351232) (hb : 0 < len → b < n₀) (J Jx : List Int → World → Prop)
  (hY : ∀ pre x W, J pre W → pre.length < len → YieldAt F (n - 1) Tryz.prog l #[.int .i64 x] W fun e W' =>
   (e = .returned (.bool true) ∧ J (pre ++ [x]) W' ∧ Below n₀ W W') ∨ (e = .returned (.bool false) ∧ Jx (pre ++ [x]) W'))
  (W : World) (hBs : W.cell? ⟨Bs, Bo, none⟩ = some (.slice (some ⟨b, off, none⟩) len cap)) (hc : ∀ j, j < len → W.cell? ⟨b, off + j, none⟩ = some (.int .i64 (zs[j]?.getD 0))) (h0 : J [] W) :
  CallsIn F n Tryz.prog 328 #[.func (.yield l) #[] #[], .pointer (some ⟨Bs, Bo, none⟩)] W fun e W' => (∃ v, e = .returned v) ∧
   ((∃ ys, ys = Vi.upto (fun j => zs[j]?.getD 0) len ∧ J ys W') ∨ (∃ pre, (∃ k, k ≤ len ∧ pre = Vi.upto (fun j => zs[j]?.getD 0) k) ∧ Jx pre W')) := by
 refine callsIn_of_wp Tryz.func328 rfl h153 ?_ hro
 simp only [Tryz.ntmps328, List.size_toArray, List.length_cons, List.length_nil, Nat.reduceAdd, Nat.reduceSub, Array.replicate_succ, Array.replicate_zero, List.push_toArray, List.append_toArray, List.nil_append, List.cons_append]
 gi_wp2
 gi_loopw [7] (fun i wr => ∃ k : Nat, k ≤ len ∧ i = .int .i64 k ∧ J (Vi.upto (fun j => zs[j]?.getD 0) k) wr ∧ Below n₀ W wr)
  (fun i _ => len - (intOf i).toNat)
 case atStart => exact ⟨0, Nat.zero_le _, rfl, h0, Below.refl _ _⟩
 case round =>
  obtain ⟨k, hk, rfl, hJs, hnx⟩ := hrel
  have hcx : k < len → wr.cell? ⟨b, off + k, none⟩ = some (.int .i64 (zs[k]?.getD 0)) := fun h => (hnx.cell (p := ⟨b, off + k, none⟩) (hb (by omega))).trans (hc k h)
  by_cases hlt : k < len
  · obtain ⟨fn, tmps, assign, body, hy, hR⟩ := hY _ (zs[k]?.getD 0) wr hJs (by rw [Vi.upto_length]; exact hlt)
    have hcx' := hcx hlt
    gi_wp2
    refine hR.mono ?_
    rintro e W3 (⟨rfl, hJ3, hk3⟩ | ⟨rfl, hJx3⟩)
    · -- THE ROUND GOES ON
      gi_wp2
      go_roundw
      case rel => exact ⟨k + 1, by omega, by simp, by rw [Vi.upto_succ]; exact hJ3, hnx.trans hk3⟩
      case measure => simp [intOf]; omega
    · gi_wp2
      refine bodyPost_ret (results_none rfl _ _ _) rfl ?_
      exact ⟨⟨_, rfl⟩, .inr ⟨_, ⟨k + 1, by omega, (Vi.upto_succ _ _).symm⟩, hJx3⟩⟩
  · obtain rfl : k = len := by omega
    gi_wp2
    go_end0
    exact ⟨⟨_, rfl⟩, .inl ⟨_, rfl, hJs⟩⟩
theorem Vi.upto_take (zs : List Int) {k : Nat} (hk : k ≤ zs.length) : Vi.upto (fun j => zs[j]?.getD 0) k = zs.take k := by
 apply List.ext_getElem
 · simp [Vi.upto, hk]
 · intro i h1 h2
   have : i < zs.length := by simp [Vi.upto] at h1; omega
   simp [Vi.upto, this]
def Vi.Ints (n₀ : Nat) (W : World) (sv : Value) (zs : List Int) : Prop :=
 ((∃ p cap, sv = .slice p 0 cap) ∧ zs = []) ∨ ∃ b off cap, sv = .slice (some ⟨b, off, none⟩) zs.length cap ∧ (0 < zs.length → b < n₀) ∧ ∀ j, j < zs.length → W.cell? ⟨b, off + j, none⟩ = some (.int .i64 (zs[j]?.getD 0))
theorem Vi.Ints.below {n₀ : Nat} {A B : World} (h : Below n₀ A B) {sv : Value} {zs : List Int} : Vi.Ints n₀ A sv zs → Vi.Ints n₀ B sv zs
 | .inl e => .inl e
 | .inr ⟨b, off, cap, e, hb, hc⟩ => .inr ⟨b, off, cap, e, hb, fun j hj => (h.cell (p := ⟨b, off + j, none⟩) (hb (by omega))).trans (hc j hj)⟩
set_option maxRecDepth 100000 in
set_option maxHeartbeats 1000000 in
theorem Vi.values1_nil_in (F : Fence) (n : Nat) (h153 : F.fn 328) (hro : F.round = none) (l Bs Bo : Nat) (J : List Int → World → Prop) (W : World) (p : Option Addr) (cap : Nat) (hBs : W.cell? ⟨Bs, Bo, none⟩ = some (.slice p 0 cap)) (h0 : J [] W) :
  CallsIn F n Tryz.prog 328 #[.func (.yield l) #[] #[], .pointer (some ⟨Bs, Bo, none⟩)] W fun e W' => (∃ v, e = .returned v) ∧ J [] W' := by
 refine callsIn_of_wp Tryz.func328 rfl h153 ?_ hro
 simp only [Tryz.ntmps328, List.size_toArray, List.length_cons, List.length_nil, Nat.reduceAdd, Nat.reduceSub, Array.replicate_succ, Array.replicate_zero, List.push_toArray, List.append_toArray, List.nil_append, List.cons_append]
 gi_wp2
 gi_loopw [7] (fun i wr => i = .int .i64 0 ∧ J [] wr) (fun _ _ => 0)
 case atStart => exact ⟨rfl, h0⟩
 case round =>
  obtain ⟨rfl, hJs⟩ := hrel
  gi_wp2
  go_end0
  exact ⟨⟨_, rfl⟩, hJs⟩
set_option maxHeartbeats 1000000 in
theorem Vi.values_in (F : Fence) (n : Nat) (h5 : F.fn 296) (hro : F.round = none) (a : Option Addr) (len cap : Nat) (w : World) :
  CallsIn F n Tryz.prog 296 #[.slice a len cap] w fun e w' => e = .returned (.func (.func 328) #[] #[.pointer (some ⟨w.heap.size, 0, none⟩)]) ∧ w' = w.alloc (.cells #[.slice a len cap] 25) := by
 refine callsIn_of_wp Tryz.func296 rfl h5 ?_ hro
 simp only [Tryz.ntmps296, List.size_toArray, List.length_cons, List.length_nil, Nat.reduceAdd, Nat.reduceSub, Array.replicate_succ, Array.replicate_zero, List.push_toArray, List.append_toArray, List.nil_append, List.cons_append]
 gi_wp2
 go_ret
 exact ⟨rfl, rfl⟩
theorem Vi.values_stops (F : Fence) (n : Nat) (h153 : F.fn 328) (hro : F.round = none) (hn : 1 ≤ n) (Bs Bo n₀ : Nat) (sv : Value) (zs : List Int) (hreach : zs.length * 8 ≤ 140737488351232) (w : World) (hBs : Bs < w.heap.size) (hn₀ : n₀ ≤ w.heap.size)
  (hc : w.cell? ⟨Bs, Bo, none⟩ = some sv) (hI : Vi.Ints n₀ w sv zs) :
  SeqStopsK F n Tryz.prog 328 #[.pointer (some ⟨Bs, Bo, none⟩)] (fun x : Int => #[Value.int .i64 x]) (Below n₀) (fun ys => ys = zs) (fun pre => pre <+: zs) zs.length w := fun l J Jx W hW _ _ hY h0 => by
 have hc' := (hW.cell (p := ⟨Bs, Bo, none⟩) hBs).trans hc
 rcases hI.below (hW.mono hn₀) with ⟨⟨p, cap, rfl⟩, rfl⟩ | ⟨b, off, cap, rfl, hb, hcs⟩
 · exact (Vi.values1_nil_in F n h153 hro l Bs Bo J W p cap hc' h0).mono fun e W' ⟨he, hj⟩ => ⟨he, .inl ⟨_, rfl, hj⟩⟩
 · refine (Vi.values1_in F n h153 hro hn l Bs Bo n₀ b off zs.length cap zs hreach hb J Jx hY W hc' hcs h0).mono ?_
   rintro e W' ⟨he, ⟨ys, rfl, hj⟩ | ⟨pre, ⟨k, hk, rfl⟩, hj⟩⟩
   · exact ⟨he, .inl ⟨_, Vi.upto_all zs, hj⟩⟩
   · exact ⟨he, .inr ⟨_, by rw [Vi.upto_take zs hk]; exact List.take_prefix _ _, hj⟩⟩
end Go.Proofs
namespace Go.Proofs
open Go.RowKit Go.Maps Go.Shelf
theorem Va.both {n : Nat} {A W W' : World} (h : Below n A W) (h' : Below n A W') (hs : W.heap.size ≤ W'.heap.size) : Below n W W' :=
 ⟨h'.os.trans h.os.symm, h'.tape.trans h.tape.symm, h'.output.trans h.output.symm, hs, fun k hk => (h'.block k hk).trans (h.block k hk).symm⟩
def Va.apAssign : Code := (Code.region 2 #[{ dst := some 5, op := Op.assign (Operand.tmp 7), type := 3, pos := "iter.go:51", after := #[], guard := none }] false)
def Va.apBody : Code := (Code.block 1 (Code.region 3 #[{ dst := some 8, op := Op.load 25 (Operand.tmp 2), type := 25, pos := "iter.go:52", after := #[], guard := none }, { dst := some 9, op := Op.move (Operand.tmp 5), type := 3, pos := "iter.go:52", after := #[], guard := none }, { dst := some 10, op := Op.buildSlice 25 1 #[(0, Operand.tmp 9)], type := 25, pos := "iter.go:52", after := #[{ on := 1, ground := Ground.data }], guard := none }, { dst := some 11, op := Op.call { callee := Callee.builtin Builtin.append, args := #[Operand.tmp 8, Operand.tmp 10], argTypes := #[25, 25] }, type := 25, pos := "iter.go:52", after := #[{ on := 0, ground := Ground.data }, { on := 2, ground := Ground.data }], guard := none }, { dst := none, op := Op.store 25 (Operand.tmp 2) (Operand.tmp 11), type := 0, pos := "iter.go:52", after := #[{ on := 3, ground := Ground.data }, { on := 3, ground := Ground.chain }, { on := 0, ground := Ground.phase }, { on := 1, ground := Ground.phase }, { on := 2, ground := Ground.phase }, { on := 3, ground := Ground.phase }], guard := none }] false))
def Va.apRec (fn : FuncId) (sv : Value) (Bs D : Nat) (st : LoopState) (pend : Option Code) : Loop :=
 { state := st, pending := pend, fn, tmps := #[.slice none 0 0, sv, .pointer (some ⟨Bs, 0, none⟩), undef, .slice none 0 0, undef, sv, undef, undef, undef, undef, undef, undef], params := #[7], assign := Va.apAssign, body := Va.apBody, defers := D }
structure Va.ApAt (w0 : World) (fn : FuncId) (sv : Value) (Bs l D : Nat) (ss : List Int) (W : World) : Prop where
 box : ∃ v, W.heap[Bs]? = some (.cells #[v] 25 (0, 0)) ∧ W.ownsRow w0.heap.size 3 1 v ss.length (ss.map (Value.int .i64)) ∧ (v = .slice none 0 0 ↔ ss = [])
 L : W.heap[l]? = some (.loop (Va.apRec fn sv Bs D .ready none))
 K : W.heap[D]? = some (.deferred (some []))
 below : Below w0.heap.size w0 W
theorem ownsRow_abides {W W' : World} {row : Option Nat} {base : Nat} {e : TypeId} {size : Nat} {v : Value} {k : Nat} {xs : List Value} (h : W.ownsRow base e size v k xs) (hg : W.grownBy W' row)
  (hrow : ∀ r, row = some r → ∃ o : Obj, W.heap[r]? = some o ∧ o.isWalk = true) : W'.ownsRow base e size v k xs := by
 refine h.kept hg ?_
 rcases h.2 with ⟨rfl, _⟩ | ⟨g, cap, cur, rfl, _, hgb, _⟩
 · exact .inl rfl
 · refine .inr fun e' => ?_
   obtain ⟨o, ho, hw⟩ := hrow g (by simpa [Value.ownBlock] using e'.symm)
   rw [hgb] at ho; cases ho; cases hw
theorem Va.ap_abides (w0 : World) (fn : FuncId) (sv : Value) (Bs l D B : Nat) (hB : w0.heap.size ≤ B) : AbidesFrom B (Va.ApAt w0 fn sv Bs l D) := fun s W W' row h hg hrow => by
 have hrow' : ∀ r, row = some r → ∃ o : Obj, W.heap[r]? = some o ∧ o.isWalk = true := fun r e => (hrow r e).2
 obtain ⟨v, hv, hr, hn⟩ := h.box
 exact ⟨⟨v, (grownBy_keeps hg hrow' hv rfl).trans hv, ownsRow_abides hr hg hrow', hn⟩, (grownBy_keeps hg hrow' h.L rfl).trans h.L, (grownBy_keeps hg hrow' h.K rfl).trans h.K,
  h.below.grown hg h.below.size (fun k e => Nat.le_trans hB (hrow k e).1)⟩
theorem grownBy_putObj (W : World) (l : Nat) (o : Obj) : W.grownBy (W.putObj l o) (some l) :=
 ⟨rfl, rfl, rfl, by simp, fun k _ hk => World.putObj_heap_other (fun e => hk (by rw [e]))⟩
theorem grownBy_setCell0 (W : World) (b : Nat) (v : Value) : W.grownBy (W.setCell ⟨b, 0, none⟩ v) (some b) :=
 ⟨rfl, rfl, rfl, (KeepsWalks.setCell W _ v).size, fun k _ hk => Below.heap_setCell _ _ _ k (fun e => hk (by rw [e]))⟩
theorem ownsRow_ne {W : World} {base : Nat} {e : TypeId} {size : Nat} {v : Value} {k : Nat} {xs : List Value} (h : W.ownsRow base e size v k xs) {j : Nat} {o : Obj} (hj : W.heap[j]? = some o) (hno : ∀ cur, o ≠ .cells cur e (0, 0)) :
  v.ownBlock = none ∨ v.ownBlock ≠ some j := by
 rcases h.2 with ⟨rfl, _⟩ | ⟨g, cap, cur, rfl, _, hgb, _⟩
 · exact .inl rfl
 · refine .inr fun e' => ?_
   have : g = j := by simpa [Value.ownBlock] using e'
   subst this; rw [hgb] at hj; cases hj; exact hno cur rfl
theorem cell_of_box {W : World} {B : Nat} {v : Value} {t : TypeId} (h : W.heap[B]? = some (.cells #[v] t (0, 0))) : W.cell? ⟨B, 0, none⟩ = some v ∧ W.frozen? ⟨B, 0, none⟩ = false := by
 constructor <;> simp [World.cell?, World.frozen?, h]
theorem heap_setCell_box {W : World} {B : Nat} {v : Value} {t : TypeId} (v' : Value) (h : W.heap[B]? = some (.cells #[v] t (0, 0))) : (W.setCell ⟨B, 0, none⟩ v').heap[B]? = some (.cells #[v'] t (0, 0)) := by
 obtain ⟨hlt, hk⟩ := Array.getElem?_eq_some_iff.1 h
 show (W.heap.modify B _)[B]? = _
 rw [Array.getElem?_eq_getElem (by rw [Array.size_modify]; exact hlt), Array.getElem_modify_self, hk]
 rfl
theorem ownsRow_not_walk {W : World} {base : Nat} {e : TypeId} {size : Nat} {v : Value} {k : Nat} {xs : List Value} (h : W.ownsRow base e size v k xs) : ∀ (j : Nat) (o : Obj), v.ownBlock = some j → W.heap[j]? = some o → o.isWalk = false := by
 intro j o hj ho
 rcases h.2 with ⟨rfl, _⟩ | ⟨g, cap, cur, rfl, _, hgb, _⟩
 · simp [Value.ownBlock] at hj
 · have : g = j := by simpa [Value.ownBlock] using hj
   subst this; rw [hgb] at ho; cases ho; rfl
theorem Va.info3 : (Tryz.prog.info? 3).map (fun i => (i.zero, i.size, i.bytes)) = some (some (.int .i64 0), 1, 8) := by kernel_rfl
set_option maxRecDepth 100000 in
set_option maxHeartbeats 2000000 in
theorem Va.apYield (F : Fence) (m : Nat) (w0 : World) (fn : FuncId) (hfn : F.fn fn) (sv : Value) (Bs l D : Nat) (hBl : Bs ≠ l) (hDl : D ≠ l) (hDB : D ≠ Bs) (h0B : w0.heap.size ≤ Bs) (h0l : w0.heap.size ≤ l)
  (N : Nat) (hN : N ≤ maxLen) (hNb : N * 8 ≤ 140737488355328) (ss : List Int) (x : Int) (W : World) (h : Va.ApAt w0 fn sv Bs l D ss W) (hlen : ss.length < N) :
  YieldAt F m Tryz.prog l #[(Value.int .i64) x] W fun e W' => e = .returned (.bool true) ∧ Va.ApAt w0 fn sv Bs l D (ss ++ [x]) W' ∧ Below w0.heap.size W W' := by
 obtain ⟨i0, hi, hz0, hz1, hz2⟩ := info_parts Va.info3
 obtain ⟨v, hv, hrow, _⟩ := h.box
 refine ⟨fn, #[.slice none 0 0, sv, .pointer (some ⟨Bs, 0, none⟩), undef, .slice none 0 0, undef, sv, (Value.int .i64) x, undef, undef, undef, undef, undef], Va.apAssign, Va.apBody, by simpa [Va.apRec] using run_yield (P := Tryz.prog) (args := #[(Value.int .i64) x]) h.L rfl, roundIn_of_wpIn hfn ?_⟩
 have hl : l < W.heap.size := (Array.getElem?_eq_some_iff.1 h.L).1
 have hbr := run_beginRound (P := Tryz.prog) h.L rfl
 obtain ⟨W2, hW2⟩ : ∃ W2, W.putObj l (.loop { Va.apRec fn sv Bs D .ready none with state := .busy }) = W2 := ⟨_, rfl⟩
 rw [hW2] at hbr
 have hg2 : W.grownBy W2 (some l) := by rw [← hW2]; exact grownBy_putObj _ _ _
 have hk2 : KeepsWalks W W2 := by rw [← hW2]; exact KeepsWalks.putObj _ h.L rfl
 have hv2 : W2.heap[Bs]? = some (.cells #[v] 25 (0, 0)) := by rw [← hW2]; exact (World.putObj_heap_other hBl).trans hv
 have hK2 : W2.heap[D]? = some (.deferred (some [])) := by rw [← hW2]; exact (World.putObj_heap_other hDl).trans h.K
 have hL2 : W2.heap[l]? = some (.loop { Va.apRec fn sv Bs D .ready none with state := .busy }) := by rw [← hW2]; exact World.putObj_heap_same hl
 have hrow2 : W2.ownsRow w0.heap.size 3 1 v ss.length (ss.map (Value.int .i64)) := hrow.kept hg2 (ownsRow_ne hrow h.L (fun cur e => by cases e))
 have hb2 : Below w0.heap.size w0 W2 := h.below.grown hg2 h.below.size (fun k e => by cases e; exact h0l)
 obtain ⟨hc2, hf2⟩ := cell_of_box hv2
 have hBlt : Bs < W2.heap.size := (Array.getElem?_eq_some_iff.1 hv2).1
 have hl2 : l < W2.heap.size := (Array.getElem?_eq_some_iff.1 hL2).1
 have hDlt : D < W2.heap.size := (Array.getElem?_eq_some_iff.1 hK2).1
 have ne_of : ∀ {j : Nat} {o : Obj}, W2.heap[j]? = some o → (∀ cur, o ≠ .cells cur 3 (0, 0)) → some j ≠ v.ownBlock := fun hj hno => by
  rcases ownsRow_ne hrow2 hj hno with e | e
  · rw [e]; simp
  · exact fun e' => e e'.symm
 clear hW2
 unfold Va.apAssign
 gi_wp2_with (rw [Oper.semAt_eq _ _ _ (fun c h => by cases h)]; go_simp; try go_bits)
 unfold Va.apBody
 gi_wp2_with (first
  | (gi_at_builtin; refine wpListIn_append_own _ rfl _ _ 25 rfl w0.heap.size 3 i0 (.int .i64 0) 1 8 Tryz.underlying25 hi hz0 hz1 hz2 rfl (by decide) _ _ _ rfl (hrow2.alloc _) ⟨W2.heap.size, 0, none⟩ 1 1 [(Value.int .i64) x] rfl rfl (cell_one_new _ _ _) (by simp [Value.oneCell']) (by omega) (by omega) (by have := hb2.size; simp; omega) ?_; intro v' w3 hown' hg3 hnil3
     have hv3 : w3.heap[Bs]? = some (.cells #[v] 25 (0, 0)) := (hg3.block Bs (by simp; omega) (ne_of hv2 (fun cur e => by cases e))).trans ((Below.heap_alloc _ _ Bs hBlt).trans hv2)
     obtain ⟨hc3, hf3⟩ := cell_of_box hv3
     obtain ⟨g', cap', cur', rfl, hbase', hgb', hr1, hr2, hr3, hr4⟩ : ∃ g' cap' cur', v' = .slice (some ⟨g', 0, none⟩) (ss.length + 1) cap' ∧ w0.heap.size ≤ g' ∧ w3.heap[g']? = some (.cells cur' 3 (0, 0)) ∧ ss.length + 1 ≤ cap' ∧ cap' ≤ maxLen ∧ cur'.size = cap' * 1 ∧ cur'.toList.take ((ss.length + 1) * 1) = ss.map (Value.int .i64) ++ [(Value.int .i64) x] := by
      rcases hown'.2 with ⟨_, h0⟩ | h'
      · exact absurd h0 (by omega)
      · exact h'
     go_frame)
  | (rw [Oper.semAt_eq _ _ _ (fun c h => by cases h)]; go_simp; try go_bits))
 have hg3' : (W2.alloc (.cells #[(Value.int .i64) x] 3)).grownBy w3 v.ownBlock := hg3
 have hL3 : w3.heap[l]? = some (.loop { Va.apRec fn sv Bs D .ready none with state := .busy }) := (hg3'.block l (by simp; omega) (ne_of hL2 (fun cur e => by cases e))).trans ((Below.heap_alloc _ _ l hl2).trans hL2)
 have hK3 : w3.heap[D]? = some (.deferred (some [])) := (hg3'.block D (by simp; omega) (ne_of hK2 (fun cur e => by cases e))).trans ((Below.heap_alloc _ _ D hDlt).trans hK2)
 obtain ⟨w4, hw4⟩ : ∃ w4, w3.setCell ⟨Bs, 0, none⟩ (.slice (some ⟨g', 0, none⟩) (ss.length + 1) cap') = w4 := ⟨_, rfl⟩
 rw [hw4]
 have hg4 : w3.grownBy w4 (some Bs) := by rw [← hw4]; exact grownBy_setCell0 _ _ _
 have hv4 : w4.heap[Bs]? = some (.cells #[.slice (some ⟨g', 0, none⟩) (ss.length + 1) cap'] 25 (0, 0)) := by rw [← hw4]; exact heap_setCell_box _ hv3
 have hL4 : w4.heap[l]? = some (.loop { Va.apRec fn sv Bs D .ready none with state := .busy }) := (hg4.block l (Array.getElem?_eq_some_iff.1 hL3).1 (fun e => hBl (by cases e; rfl))).trans hL3
 have hK4 : w4.heap[D]? = some (.deferred (some [])) := (hg4.block D (Array.getElem?_eq_some_iff.1 hK3).1 (fun e => hDB (by cases e; rfl))).trans hK3
 have hrow4 := hown'.kept hg4 (ownsRow_ne hown' hv3 (fun cur e => by cases e))
 have hl4 : l < w4.heap.size := (Array.getElem?_eq_some_iff.1 hL4).1
 have hb3 : Below w0.heap.size w0 w3 := (hb2.alloc hb2.size _).grown hg3' (by have := hb2.size; simp; omega) (fun k e => (hrow2.lt k e).1)
 have hb4 : Below w0.heap.size w0 w4 := hb3.grown hg4 hb3.size (fun k e => by cases e; exact h0B)
 have hk4 : KeepsWalks W w4 := ((hk2.trans (KeepsWalks.alloc _ _)).trans (KeepsWalks.of_grownBy hg3' (ownsRow_not_walk (hrow2.alloc _)))).trans (by rw [← hw4]; exact KeepsWalks.setCell _ _ _)
 clear hw4
 refine ⟨_, _, run_endRound none hL4, rfl, ⟨⟨_, (World.putObj_heap_other hBl).trans hv4, ?_, by simp⟩, World.putObj_heap_same hl4, (World.putObj_heap_other hDl).trans hK4, hb4.grown (grownBy_putObj _ _ _) hb4.size (fun k e => by cases e; exact h0l)⟩, Va.both h.below (hb4.grown (grownBy_putObj _ _ _) hb4.size (fun k e => by cases e; exact h0l)) (hk4.trans (KeepsWalks.putObj _ hL4 rfl)).size⟩
 have := hrow4.kept (grownBy_putObj w4 l (.loop { { Va.apRec fn sv Bs D .ready none with state := .busy } with state := if (none : Option Code).isNone then .ready else .done, pending := none })) (ownsRow_ne hrow4 hL4 (fun cur e => by cases e))
 simpa using this
set_option maxRecDepth 100000 in
set_option maxHeartbeats 2000000 in
theorem Va.appendSeq_in (F : Fence) (n : Nat) (h173 : F.fn 361) (hro : F.round = none) (hn : 2 ≤ n) (g : Nat) (lb : Array Value) (hFg : F.fn g) (eg : ∀ args w, (callFunc g args).run Tryz.prog w = .ok (.enter g args) w)
  (S Sp : List Int → Prop) (N : Nat) (hN : N ≤ maxLen) (hNb : N * 8 ≤ 140737488355328) (w : World) (hseq : SeqStopsK F (n - 1) Tryz.prog g lb (fun x : Int => #[Value.int .i64 x]) (Below w.heap.size) S Sp N w) :
  CallsIn F n Tryz.prog 361 #[.slice none 0 0, .func (.func g) #[] lb] w fun e w' => ∃ (v : Value) (ss : List Int), e = .returned v ∧ S ss ∧ w'.ownsRow w.heap.size 3 1 v ss.length (ss.map (Value.int .i64)) ∧ (v = .slice none 0 0 ↔ ss = []) ∧ Below w.heap.size w w' := by
 have h1 : 1 ≤ n := by omega
 refine callsIn_of_wp_marks Tryz.func361 rfl h173 ?_ hro
 simp only [Tryz.ntmps361, List.size_toArray, List.length_cons, List.length_nil, Nat.reduceAdd, Nat.reduceSub, Array.replicate_succ, Array.replicate_zero, List.push_toArray, List.append_toArray, List.nil_append, List.cons_append]
 gi_wp2
 refine wpIn_rangeFunc ?_
 intro fn hfn
 rw [hro]
 obtain ⟨W0, hW0⟩ : ∃ W0, w.alloc (.cells #[.slice none 0 0] 25) = W0 := ⟨_, rfl⟩
 have hs0 : W0.heap.size = w.heap.size + 1 := by rw [← hW0]; simp
 have hv0 : W0.heap[w.heap.size]? = some (.cells #[.slice none 0 0] 25 (0, 0)) := by rw [← hW0]; exact World.alloc_heap_new w _
 have hb0 : Below w.heap.size w W0 := by rw [← hW0]; exact (Below.refl _ w).alloc (Nat.le_refl _) _
 rw [hW0]
 obtain ⟨W1, hW1⟩ : ∃ W1, (W0.alloc (.deferred (some []))).alloc (.loop (Va.apRec fn (.func (.func g) #[] lb) w.heap.size W0.heap.size .ready none)) = W1 := ⟨_, rfl⟩
 have hold : ∀ k, k < W0.heap.size → W1.heap[k]? = W0.heap[k]? := fun k hk => by
  rw [← hW1]; exact (Below.heap_alloc _ _ k (by simp; omega)).trans (Below.heap_alloc _ _ k hk)
 have hb1 : Below w.heap.size w W1 := by rw [← hW1]; exact (hb0.alloc hb0.size _).alloc (by have := hb0.size; simp; omega) _
 have hs1 : W1.heap.size = W0.heap.size + 2 := by rw [← hW1]; simp
 have hM : Va.ApAt w fn (.func (.func g) #[] lb) w.heap.size (W0.heap.size + 1) W0.heap.size [] W1 :=
  ⟨⟨_, (hold w.heap.size (by omega)).trans hv0, ⟨rfl, .inl ⟨rfl, rfl⟩⟩, by simp⟩,
   by rw [← hW1]; have := World.alloc_heap_new (W0.alloc (.deferred (some []))) (.loop (Va.apRec fn (.func (.func g) #[] lb) w.heap.size W0.heap.size .ready none)); rwa [World.size_alloc] at this,
   by rw [← hW1]; exact (Below.heap_alloc _ _ _ (by simp)).trans (World.alloc_heap_new W0 _), hb1⟩
 refine ⟨W0.heap.size + 1, [{ target := .collected W0.heap.size, args := #[] }], W1, { target := .fn (.func g) lb, args := #[.func (.yield (W0.heap.size + 1)) #[] #[]] }, W1, g,
  #[.func (.yield (W0.heap.size + 1)) #[] #[]] ++ lb, W1, ?_, ?_, ?_, ?_, fun _ => h1, ?_⟩
 · rw [← hW1]; exact run_enterLoop_outer _ _ _ _ _
 · simp [resolve, go_sem]
 · intro f' hf'; simp [Target.leads] at hf'; subst hf'; exact hFg
 · simp [invoke, go_sem, eg]
 · refine (hseq (W0.heap.size + 1) (Va.ApAt w fn (.func (.func g) #[] lb) w.heap.size (W0.heap.size + 1) W0.heap.size) (fun _ _ => False) W1 hb1 (Va.ap_abides _ _ _ _ _ _ _ hb1.size) (fun _ _ _ _ h => h.elim)
    (fun pre x W hJ hl => Va.apYield F (n - 1 - 1) w fn hfn _ w.heap.size (W0.heap.size + 1) W0.heap.size (by omega) (by omega) (by omega) (Nat.le_refl _) (by omega) N hN hNb pre x W hJ hl |>.mono fun e W' h => .inl h) hM).mono ?_
   rintro e W2 ⟨⟨v0, rfl⟩, ⟨ss, hS, h2⟩ | ⟨_, _, h2⟩⟩
   rotate_left
   · exact h2.elim
   obtain ⟨v, hv, hrow, hnil⟩ := h2.box
   have hend := run_endLoop (P := Tryz.prog) h2.L (by simp [Va.apRec])
   obtain ⟨W3, hW3⟩ : ∃ W3, W2.putObj (W0.heap.size + 1) (.loop { Va.apRec fn (.func (.func g) #[] lb) w.heap.size W0.heap.size .ready none with state := .exhausted }) = W3 := ⟨_, rfl⟩
   rw [hW3] at hend
   have hg3 : W2.grownBy W3 (some (W0.heap.size + 1)) := by rw [← hW3]; exact grownBy_putObj _ _ _
   have hv3 : W3.heap[w.heap.size]? = some (.cells #[v] 25 (0, 0)) := by rw [← hW3]; exact (World.putObj_heap_other (by omega)).trans hv
   have hK3 : W3.heap[W0.heap.size]? = some (.deferred (some [])) := by rw [← hW3]; exact (World.putObj_heap_other (by omega)).trans h2.K
   have hrow3 := hrow.kept hg3 (ownsRow_ne hrow h2.L (fun cur e => by cases e))
   have hb3 : Below w.heap.size w W3 := h2.below.grown hg3 h2.below.size (fun k e => by cases e; omega)
   obtain ⟨hc3, hf3⟩ := cell_of_box hv3
   clear hW3
   refine ⟨none, W3, hend, ?_⟩
   gi_wp2
   rw [← hs0]
   refine ⟨by simp, .inl ⟨_, _, rfl, run_takeDeferred hK3, ?_⟩⟩
   exact ⟨_, results_tmp rfl _ _ _, v, ss, rfl, hS, hrow3.kept (grownBy_putObj _ _ _) (ownsRow_ne hrow3 hK3 (fun cur e => by cases e)), hnil, hb3.grown (grownBy_putObj _ _ _) hb3.size (fun k e => by cases e; omega)⟩
set_option maxHeartbeats 1000000 in
theorem Va.collect_in (F : Fence) (n : Nat) (h152 : F.fn 327) (h173 : F.fn 361) (hro : F.round = none) (hn : 3 ≤ n) (g : Nat) (lb : Array Value) (hFg : F.fn g) (eg : ∀ args w, (callFunc g args).run Tryz.prog w = .ok (.enter g args) w)
  (S Sp : List Int → Prop) (N : Nat) (hN : N ≤ maxLen) (hNb : N * 8 ≤ 140737488355328) (w : World) (hseq : SeqStopsK F (n - 1 - 1) Tryz.prog g lb (fun x : Int => #[Value.int .i64 x]) (Below w.heap.size) S Sp N w) :
  CallsIn F n Tryz.prog 327 #[.func (.func g) #[] lb] w fun e w' => ∃ (v : Value) (ss : List Int), e = .returned v ∧ S ss ∧ w'.ownsRow w.heap.size 3 1 v ss.length (ss.map (Value.int .i64)) ∧ (v = .slice none 0 0 ↔ ss = []) ∧ Below w.heap.size w w' := by
 have h1 : 1 ≤ n := by omega
 refine callsIn_of_wp Tryz.func327 rfl h152 ?_ hro
 simp only [Tryz.ntmps327, List.size_toArray, List.length_cons, List.length_nil, Nat.reduceAdd, Nat.reduceSub, Array.replicate_succ, Array.replicate_zero, List.push_toArray, List.append_toArray, List.nil_append, List.cons_append]
 gi_wp2_with (gi_at_call 361; refine (Va.appendSeq_in F (n - 1) h173 hro (by omega) g lb hFg eg S Sp N hN hNb _ hseq).mono ?_; rintro e w' ⟨v, ss, rfl, hS, hrow, hnil, hb⟩)
 go_ret
 exact ⟨v, ss, rfl, hS, hrow, hnil, hb⟩
end Go.Proofs
namespace Go.Proofs
open Go.RowKit Go.Maps Go.Sort Go.Shelf
theorem Vo.holds_of_block {w : World} {g : Nat} {cur : Array Value} {e : TypeId} {ss : List Int} (hb : w.heap[g]? = some (.cells cur e (0, 0))) (ht : cur.toList.take ss.length = ss.map (Value.int .i64)) : Holds (Value.int .i64) w g 0 ss.toArray := by
 intro j hj
 have hj' : j < ss.length := by simpa using hj
 refine ⟨?_, by simp [World.frozen?, hb]⟩
 have h1 : (cur.toList.take ss.length)[j]? = (ss.map (Value.int .i64))[j]? := by rw [ht]
 rw [List.getElem?_take_of_lt hj'] at h1
 simp only [World.cell?, hb, Nat.zero_add]
 simp only [Option.isSome_none, Bool.false_eq_true, if_false]
 rw [← Array.getElem?_toList, h1]
 simp [hj']
theorem Vo.heap_sorted {w : World} {g n : Nat} {os : Array Obj} {cur : Array Value} {e : TypeId} {fr : Nat × Nat} (d : Array Int) (hb : w.heap[g]? = some (.cells cur e fr)) :
  (grow (putRow (Value.int .i64) (Sort.ahead w n) g 0 d) os).heap[g]? = some (.cells (putCells (Value.int .i64) 0 d cur) e fr) := by
 have hg : g < w.heap.size := (Array.getElem?_eq_some_iff.1 hb).1
 rw [heap_grow_old _ _ (by simpa using hg)]
 simp [putRow, mapBlock, Sort.ahead, Array.getElem?_modify, hb, onCells]
theorem Vo.grownBy_sorted {w : World} {g n : Nat} {os : Array Obj} (d : Array Int) : w.grownBy (grow (putRow (Value.int .i64) (Sort.ahead w n) g 0 d) os) (some g) := by
 refine ⟨rfl, rfl, rfl, by simp, fun k hk hne => ?_⟩
 rw [heap_grow_old _ _ (by simpa using hk)]
 have : g ≠ k := fun e => hne (by rw [e])
 simp [putRow, mapBlock, Sort.ahead, Array.getElem?_modify, this]
theorem Vo.take_putCells (cur : Array Value) (ts : List Int) (h : ts.length ≤ cur.size) : (putCells (Value.int .i64) 0 ts.toArray cur).toList.take ts.length = ts.map (Value.int .i64) := by
 apply List.ext_getElem?
 intro j
 by_cases hj : j < ts.length
 · rw [List.getElem?_take_of_lt hj, Array.getElem?_toList]
   simp [putCells, hj, show j < cur.size by omega]
 · rw [List.getElem?_take_eq_none (by omega), List.getElem?_eq_none (by simp; omega)]
theorem Vo.ownsRow_sorted {w : World} {base g cap n : Nat} {e : TypeId} {os : Array Obj} {cur : Array Value} {ss ts : List Int} (hl : ts.length = ss.length) (hbase : base ≤ g) (hb : w.heap[g]? = some (.cells cur e (0, 0)))
  (h1 : ss.length ≤ cap) (h2 : cap ≤ maxLen) (h3 : cur.size = cap * 1) :
  (grow (putRow (Value.int .i64) (Sort.ahead w n) g 0 ts.toArray) os).ownsRow base e 1 (.slice (some ⟨g, 0, none⟩) ss.length cap) ss.length (ts.map (Value.int .i64)) :=
 ⟨by simp [hl], .inr ⟨g, cap, _, rfl, hbase, Vo.heap_sorted _ hb, h1, h2, by simp [putCells, h3], by rw [Nat.mul_one, ← hl]; exact Vo.take_putCells cur ts (by omega)⟩⟩
def Vo.SortsIn (F : Fence) (m : Nat) : Prop :=
 (∀ (blk off cap : Nat) (ss : List Int) (W : World), Holds (Value.int .i64) W blk off ss.toArray → blk < W.heap.size → ss.length < 4611686018427387904 →
  CallsIn F m Tryz.prog 280 #[.slice (some ⟨blk, off, none⟩) ss.length cap] W fun e w' => e = .returned (.tuple #[]) ∧ ∃ k os, w' = grow (putRow (Value.int .i64) (Sort.ahead W k) blk off (ss.mergeSort fun x y => decide (x ≤ y)).toArray) os) ∧
 (∀ (p : Option Addr) (cap : Nat) (W : World), CallsIn F m Tryz.prog 280 #[.slice p 0 cap] W fun e w' => e = .returned (.tuple #[]) ∧ w' = W)
set_option maxRecDepth 100000 in
set_option maxHeartbeats 2000000 in
theorem Vo.sorted_in (F : Fence) (n : Nat) (h6 : F.fn 295) (h8 : F.fn 327) (h9 : F.fn 280) (h11 : F.fn 361) (hro : F.round = none) (hn : 4 ≤ n) (hsort : Vo.SortsIn F (n - 1)) (g : Nat) (lb : Array Value) (hFg : F.fn g) (eg : ∀ args w, (callFunc g args).run Tryz.prog w = .ok (.enter g args) w)
  (S Sp : List Int → Prop) (N : Nat) (hSN : ∀ ys, S ys → ys.length ≤ N) (hN : N ≤ maxLen) (hNb : N * 8 ≤ 140737488355328) (w : World) (hseq : SeqStopsK F (n - 1 - 1 - 1) Tryz.prog g lb (fun x : Int => #[Value.int .i64 x]) (Below w.heap.size) S Sp N w) :
  CallsIn F n Tryz.prog 295 #[.func (.func g) #[] lb] w fun e w' => ∃ (v : Value) (ss : List Int), e = .returned v ∧ S ss ∧
   w'.ownsRow w.heap.size 3 1 v ss.length ((ss.mergeSort (fun x y => decide (x ≤ y))).map (Value.int .i64)) ∧ (v = .slice none 0 0 ↔ ss = []) ∧ Below w.heap.size w w' := by
 have h1 : 1 ≤ n := by omega
 refine callsIn_of_wp Tryz.func295 rfl h6 ?_ hro
 simp only [Tryz.ntmps295, List.size_toArray, List.length_cons, List.length_nil, Nat.reduceAdd, Nat.reduceSub, Array.replicate_succ, Array.replicate_zero, List.push_toArray, List.append_toArray, List.nil_append, List.cons_append]
 gi_wp2_with (gi_at_call 327; refine (Va.collect_in F (n - 1) h8 h11 hro (by omega) g lb hFg eg _ _ N hN hNb _ hseq).mono ?_; rintro e W ⟨v, ss, rfl, hS, hrow, hnil, hb⟩)
 have hlen := hSN ss hS
 rcases hrow.2 with ⟨rfl, hz⟩ | ⟨gb, cap, cur, rfl, hbase, hgb, r1, r2, r3, r4⟩
 · -- nothing came: the nil slice is sorted and handed back
   have hss : ss = [] := List.eq_nil_of_length_eq_zero hz
   subst hss
   gi_wp2_with (gi_at_call 280; refine (hsort.2 none 0 W).mono ?_; rintro e w' ⟨rfl, rfl⟩)
   go_ret
   exact ⟨.slice none 0 0, [], rfl, hS, by simpa using hrow, by simp, hb⟩
 · have hH : Holds (Value.int .i64) W gb 0 ss.toArray := Vo.holds_of_block hgb (by simpa using r4)
   have hgl : gb < W.heap.size := (Array.getElem?_eq_some_iff.1 hgb).1
   have hsz : ss.length < 4611686018427387904 := by omega
   have cS := hsort.1 gb 0 cap ss W hH hgl hsz
   gi_wp2_with (gi_at_call 280; refine cS.mono ?_; rintro e w' ⟨rfl, nn, os, rfl⟩)
   go_ret
   exact ⟨_, ss, rfl, hS, Vo.ownsRow_sorted (by simp) hbase hgb r1 r2 r3, hnil, hb.grown (Vo.grownBy_sorted _) hb.size (fun j hj => by cases hj; exact hbase)⟩
end Go.Proofs
namespace Go.Proofs
open Go.RowKit Go.Maps Go.Sort Go.Shelf
theorem Vq.sorted_calls (hsort : ∀ m, Vo.SortsIn Fence.wide m) (Bs Bo : Nat) (sv : Value) (zs : List Int) (hreach : zs.length * 8 ≤ 140737488351232) (w : World) (hBs : Bs < w.heap.size)
  (hc : w.cell? ⟨Bs, Bo, none⟩ = some sv) (hI : Vi.Ints w.heap.size w sv zs) :
  Calls Tryz.prog 295 #[.func (.func 328) #[] #[.pointer (some ⟨Bs, Bo, none⟩)]] w fun e w' => ∃ v, e = .returned v ∧ w'.ownsRow w.heap.size 3 1 v zs.length ((zs.mergeSort fun x y => decide (x ≤ y)).map (Value.int .i64)) ∧ Below w.heap.size w w' := by
 have hseq := Vi.values_stops Fence.wide 3 trivial rfl (by omega) Bs Bo w.heap.size sv zs hreach w hBs (Nat.le_refl _) hc hI
 refine (callsIn_wide.1 (Vo.sorted_in Fence.wide 6 trivial trivial trivial trivial rfl (by omega) (hsort _) 328 _ trivial (enters_of Tryz.func328 (by kernel_rfl) rfl) _ _ zs.length (fun ys h => by rw [h]; exact Nat.le_refl _) (by simp only [maxLen]; omega) (by omega) w hseq)).mono ?_
 rintro e w' ⟨v, ss, rfl, rfl, h1, _, h2⟩
 exact ⟨v, rfl, h1, h2⟩
open Go.Ve in
theorem Vq.sorted_contract (m : Mask) (hm : m = .shr ∨ m = .own .shr) (hsort : ∀ m, Vo.SortsIn Fence.wide m) (xs : List Int) (hx : xs.length * 8 ≤ 140737488351232) :
  Contract Tryz.prog 295 [.fn 328 [0]] [.box m ⟨.list I, xs⟩] [(.own .shr, ⟨.list I, xs.mergeSort fun x y => decide (x ≤ y)⟩)] [.box m ⟨.list I, xs⟩] := by
 refine ⟨⟨_, _, Tryz.func295, by kernel_rfl, rfl⟩, fun g w vals hlv hargs hobs => ?_⟩
 obtain ⟨v, rfl, e1⟩ := vals_one hargs
 obtain ⟨cs, c, e, h1, h2, h3, h4, h5⟩ := hobs 0 _ rfl
 have e1 : v = FnVal g ⟨328, [extId 0]⟩ := e1
 subst e1
 have hB : (g.base (extId 0)).block < w.heap.size := hlv _ _ h2
 have hb : g.base (extId 0) = ⟨(g.base (extId 0)).block, (g.base (extId 0)).off, none⟩ := by
  generalize g.base (extId 0) = a at h1 ⊢
  obtain ⟨b, o, sp⟩ := a
  subst h1; rfl
 have fv : FnVal g ⟨328, [extId 0]⟩ = .func (.func 328) #[] #[.pointer (some ⟨(g.base (extId 0)).block, (g.base (extId 0)).off, none⟩)] := by
  rw [← hb]; rfl
 rw [fv]
 have key : ∃ sv, cs = [sv] ∧ Vi.Ints w.heap.size w sv xs := by
  rcases hm with rfl | rfl
  · have h5 : SRep g w (.list I) xs cs := h5
    rcases h5 with ⟨rfl, h0⟩ | ⟨a, cap, rfl, q2, q3, q4⟩
    · exact ⟨_, rfl, .inl ⟨⟨none, 0, rfl⟩, h0⟩⟩
    · by_cases hz : xs.length = 0
      · have hz' : xs = [] := List.eq_nil_of_length_eq_zero hz
        subst hz'
        exact ⟨_, rfl, .inl ⟨⟨some a, cap, rfl⟩, rfl⟩⟩
      have q2 := q2 (by show 0 < xs.length; omega)
      have ha : a = ⟨a.block, a.off, none⟩ := by obtain ⟨b, o, sp⟩ := a; subst q2; rfl
      · refine ⟨_, rfl, .inr ⟨a.block, a.off, cap, by rw [← ha], fun h0 => (q4 0 h0).2.1, fun j hj => ?_⟩⟩
        obtain ⟨_, _, ds, d1, d2⟩ := q4 j hj
        have d2 : ds = [.int .i64 xs[j]] := d2
        subst d2
        have := d1 0 (by simp)
        have hz : (a.add (j * (Ty.int .i64).size)).add 0 = ⟨a.block, a.off + j, none⟩ := by
         rw [ha]; simp [Addr.add, Ty.size]
        rw [show (a.add (j * (Ty.int .i64).size)).add 0 = _ from hz] at this
        simpa [hj] using this
  · rcases h5 with ⟨k, _⟩ | ⟨_, hcs, hL⟩
    · cases k
    refine ⟨_, hcs, ?_⟩
    rcases hL with ⟨q1, q2⟩ | ⟨a, cap, c', e', q1, q2, q3, q4, q5, q6, q7, q8⟩
    · exact .inl ⟨⟨none, 0, q1⟩, List.eq_nil_of_length_eq_zero q2⟩
    · have ha : a = ⟨a.block, a.off, none⟩ := by obtain ⟨b, o, sp⟩ := a; subst q2; rfl
      refine .inr ⟨a.block, a.off, cap, by rw [← ha]; exact q1, fun _ => (Array.getElem?_eq_some_iff.1 q4).1, fun j hj => ?_⟩
      obtain ⟨ds, d1, _, d2⟩ := q8 j hj
      have d2 : ds = [.int .i64 xs[j]] := d2
      subst d2
      have := d1 0 (by simp)
      have hz : (a.add (j * (Ty.int .i64).size)).add 0 = ⟨a.block, a.off + j, none⟩ := by
       rw [ha]; simp [Addr.add, Ty.size]
      rw [show (a.add (j * (Ty.int .i64).size)).add 0 = _ from hz] at this
      simpa [hj] using this
 obtain ⟨sv, rfl, hI⟩ := key
 refine (Vq.sorted_calls hsort _ _ sv xs hx w hB (by have := h4 0 (by simp); simpa [← hb, Addr.add] using this) hI).mono ?_
 rintro _ w' ⟨v, rfl, q1, q2⟩
 obtain ⟨g', hg⟩ := left_fresh (ys := xs.mergeSort fun x y => decide (x ≤ y)) hlv hobs (by simpa using q1) q2
 exact ⟨_, g', rfl, hg⟩
end Go.Proofs
namespace Go.Proofs.YtcabghamgilafaaGreat.V
open Go Go.Ve Go.Proofs Go.RowKit
set_option linter.unusedSimpArgs false
theorem isNaN_calls (x : Int) (w : World) : Calls Tryz.prog 341 #[.int .i64 x] w fun e w' => e = .returned (.bool false) ∧ ∃ q, w' = w.drewN q := by
 go_enter Tryz.func341, Tryz.ntmps341
 go_wp2
 go_ret
 exact ⟨by simp, 0, rfl⟩
theorem compare_calls (x y : Int) (w : World) : Calls Tryz.prog 315 #[.int .i64 x, .int .i64 y] w fun e w' => e = .returned (.int .i64 (if x < y then -1 else if y < x then 1 else 0)) ∧ ∃ q, w' = w.drewN q := by
 have hn := fun z W => isNaN_calls z W
 by_cases h1 : x < y
 · rw [if_pos h1]
   go_enter Tryz.func315, Tryz.ntmps315
   go_wp2_with (go_at_call 341; refine (hn _ _).mono ?_; rintro e w' ⟨rfl, ⟨q, rfl⟩⟩)
   go_ret
   exact ⟨rfl, _, rfl⟩
 · rw [if_neg h1]
   by_cases h2 : y < x
   · rw [if_pos h2]
     go_enter Tryz.func315, Tryz.ntmps315
     go_wp2_with (go_at_call 341; refine (hn _ _).mono ?_; rintro e w' ⟨rfl, ⟨q, rfl⟩⟩)
     go_ret
     exact ⟨rfl, _, rfl⟩
   · rw [if_neg h2]
     go_enter Tryz.func315, Tryz.ntmps315
     go_wp2_with (go_at_call 341; refine (hn _ _).mono ?_; rintro e w' ⟨rfl, ⟨q, rfl⟩⟩)
     go_ret
     exact ⟨rfl, _, rfl⟩
set_option maxHeartbeats 2000000 in
theorem rows_calls (A B : Option Addr) (c d : Nat) (xs ys : List Int) (w : World) (hx : xs.length ≤ 4611686018427387904) (hy : ys.length ≤ 4611686018427387904)
  (hA : 0 < xs.length → ∃ ad, A = some ad ∧ ∀ j, j < xs.length → w.cell? (ad.add j) = some (.int .i64 (xs.getD j 0)))
  (hB : 0 < ys.length → ∃ ad, B = some ad ∧ ∀ j, j < ys.length → w.cell? (ad.add j) = some (.int .i64 (ys.getD j 0))) :
  Calls Tryz.prog 261 #[.slice A xs.length c, .slice B ys.length d] w fun e w' => e = .returned (.int .i64 (cmpRows xs ys)) ∧ ∃ q, w' = w.drewN q := by
 have HA := Aside0.mk hA
 have HB := Aside0.mk hB
 clear hA hB
 have hcmp := fun x y W => compare_calls x y W
 go_enter Tryz.func261, Tryz.ntmps261
 go_wp2
 go_loopg [5, 6, 7, 8, 11] xs.length (fun gg _ _ _ _ s11 wr => ∃ kk q : Nat, kk ≤ xs.length ∧ xs.length - kk ≤ gg ∧ s11 = .int .i64 kk ∧ wr = w.drewN q ∧ Aside0 (kk ≤ ys.length ∧ cmpRows xs ys = cmpRows (xs.drop kk) (ys.drop kk)))
 case atStart => exact ⟨0, 0, Nat.zero_le _, by omega, rfl, rfl, ⟨Nat.zero_le _, by simp⟩⟩
 case round =>
  obtain ⟨kk, q, hkk, hg, rfl, rfl, I⟩ := hrel
  by_cases hlt : kk < xs.length
  · have hltz : (kk : Int) < (xs.length : Int) := by omega
    have h0z : (0 : Int) ≤ (kk : Int) := by omega
    obtain ⟨ad, ea, hc⟩ := HA.out (by omega)
    subst ea
    have hcell := hc kk hlt
    clear hc
    by_cases hly : kk < ys.length
    · have hlyz : ¬ (ys.length : Int) ≤ (kk : Int) := by omega
      have hlyz2 : (kk : Int) < (ys.length : Int) := by omega
      obtain ⟨bd, eb, hc⟩ := HB.out (by omega)
      subst eb
      have hcell2 := hc kk hly
      clear hc
      have E := Aside0.mk (cmpRows_drop hlt hly)
      generalize xs.getD kk 0 = x at hcell E
      generalize ys.getD kk 0 = y at hcell2 E
      have hcc := hcmp x y
      by_cases h1 : x < y
      · rw [if_pos h1] at hcc
        have E2 := Aside0.mk (I.out.2.trans (E.out.trans (if_pos h1)))
        clear E h1
        go_wp2_with (go_at_call 315; refine (hcc _).mono ?_; rintro e w' ⟨rfl, ⟨q, rfl⟩⟩)
        go_ret
        exact ⟨by rw [E2.out]; rfl, _, rfl⟩
      · rw [if_neg h1] at hcc
        by_cases h2 : y < x
        · rw [if_pos h2] at hcc
          have E2 := Aside0.mk (I.out.2.trans (E.out.trans ((if_neg h1).trans (if_pos h2))))
          clear E h1 h2
          go_wp2_with (go_at_call 315; refine (hcc _).mono ?_; rintro e w' ⟨rfl, ⟨q, rfl⟩⟩)
          go_ret
          exact ⟨by rw [E2.out]; rfl, _, rfl⟩
        · rw [if_neg h2] at hcc
          have E2 := Aside0.mk (I.out.2.trans (E.out.trans ((if_neg h1).trans (if_neg h2))))
          clear E h1 h2
          go_wp2_with (go_at_call 315; refine (hcc _).mono ?_; rintro e w' ⟨rfl, ⟨q, rfl⟩⟩)
          go_roundg (xs.length - (kk + 1))
          case measure => omega
          case rel => exact ⟨kk + 1, _, by omega, by omega, by go_num, rfl, ⟨by omega, E2.out⟩⟩
    · have hlyz : (ys.length : Int) ≤ (kk : Int) := by omega
      have E := Aside0.mk (show cmpRows xs ys = 1 by
       rw [I.out.2, List.drop_eq_getElem_cons hlt, List.drop_eq_nil_of_le (show ys.length ≤ _ by omega)]; rfl)
      go_wp2
      go_ret
      exact ⟨by rw [E.out]; rfl, _, rfl⟩
  · have hltz : ¬ (kk : Int) < (xs.length : Int) := by omega
    have hke : kk = xs.length := by omega
    subst hke
    by_cases hly : xs.length < ys.length
    · have hlyz : (xs.length : Int) < (ys.length : Int) := by omega
      have E := Aside0.mk (show cmpRows xs ys = -1 by
       rw [I.out.2, List.drop_length, List.drop_eq_getElem_cons hly]; rfl)
      go_wp2
      go_ret
      exact ⟨by rw [E.out]; rfl, _, rfl⟩
    · have hlyz : ¬ (xs.length : Int) < (ys.length : Int) := by omega
      have E := Aside0.mk (show cmpRows xs ys = 0 by
       rw [I.out.2, List.drop_length, List.drop_eq_nil_of_le (show ys.length ≤ _ by omega)]; rfl)
      go_wp2
      go_ret
      exact ⟨by rw [E.out]; rfl, _, rfl⟩
theorem sortRows_s (m : Mask) : (sortRowsFn 260 261 m).Says Tryz.prog := sortRowsFn_says fun xs h1 h2 =>
 sortRows_contract ⟨_, _, Tryz.func260, by kernel_rfl, rfl⟩
  (fun enc g1 cmp hO blk off cap d w hc hH hb hs => Any.slices_SortFunc Tryz.sortRows enc g1 cmp hO 261 #[] blk off cap d w (enters_of Tryz.func261 (by kernel_rfl) rfl) hc hH hb hs)
  (fun p cap fv w => AnyF.slices_SortFunc_none (P := Tryz.prog) (ρ := Tryz.sortRows_ren) { Tryz.sortRows with } p cap fv w) rows_calls m xs h1 h2
end Go.Proofs.YtcabghamgilafaaGreat.V
namespace Go.Proofs.YtcabghamgilafaaGreat.V
open Go Go.Ve Go.Proofs Go.RowKit Go.Sort
theorem p_isNaN_calls (x : Int) (w : World) : Calls Tryz.prog 341 #[.int .i64 x] w fun e w' => e = .returned (.bool false) ∧ ∃ q, w' = w.drewN q := by
 go_enter Tryz.func341, Tryz.ntmps341
 go_wp2
 go_ret
 exact ⟨by simp, 0, rfl⟩
theorem p_compare_calls (x y : Int) (w : World) : Calls Tryz.prog 315 #[.int .i64 x, .int .i64 y] w fun e w' => e = .returned (.int .i64 (if x < y then -1 else if y < x then 1 else 0)) ∧ ∃ q, w' = w.drewN q := by
 have hn := fun z W => p_isNaN_calls z W
 by_cases h1 : x < y
 · rw [if_pos h1]
   go_enter Tryz.func315, Tryz.ntmps315
   go_wp2_with (go_at_call 341; refine (hn _ _).mono ?_; rintro e w' ⟨rfl, ⟨q, rfl⟩⟩)
   go_ret
   exact ⟨rfl, _, rfl⟩
 · rw [if_neg h1]
   by_cases h2 : y < x
   · rw [if_pos h2]
     go_enter Tryz.func315, Tryz.ntmps315
     go_wp2_with (go_at_call 341; refine (hn _ _).mono ?_; rintro e w' ⟨rfl, ⟨q, rfl⟩⟩)
     go_ret
     exact ⟨rfl, _, rfl⟩
   · rw [if_neg h2]
     go_enter Tryz.func315, Tryz.ntmps315
     go_wp2_with (go_at_call 341; refine (hn _ _).mono ?_; rintro e w' ⟨rfl, ⟨q, rfl⟩⟩)
     go_ret
     exact ⟨rfl, _, rfl⟩
set_option maxHeartbeats 4000000 in
theorem p_or_calls (b : Nat) (x y : Int) (w : World) (h0 : w.cell? ⟨b, 0, none⟩ = some (.int .i64 x)) (h1 : w.cell? ⟨b, 1, none⟩ = some (.int .i64 y)) : Calls Tryz.prog 314 #[.slice (some ⟨b, 0, none⟩) 2 2] w fun e w' => e = .returned (.int .i64 (if x = 0 then y else x)) ∧ ∃ q, w' = w.drewN q := by
 by_cases hx : x = 0
 · rw [if_pos hx]
   by_cases hy : y = 0
   · subst hx hy
     go_enter Tryz.func314, Tryz.ntmps314
     go_wp2
     refine wp_loop_rounds 4 ?_
     rw [rounds_succ]
     go_wp2
     rw [rounds_succ]
     go_wp2
     rw [rounds_succ]
     go_wp2
     go_ret
     exact ⟨rfl, 0, rfl⟩
   · subst hx
     go_enter Tryz.func314, Tryz.ntmps314
     go_wp2
     refine wp_loop_rounds 4 ?_
     rw [rounds_succ]
     go_wp2
     rw [rounds_succ]
     go_wp2
     go_ret
     exact ⟨rfl, 0, rfl⟩
 · rw [if_neg hx]
   go_enter Tryz.func314, Tryz.ntmps314
   go_wp2
   refine wp_loop_rounds 4 ?_
   rw [rounds_succ]
   go_wp2
   go_ret
   exact ⟨rfl, 0, rfl⟩
set_option maxHeartbeats 4000000 in
theorem p_pairs_calls (x y : Int × Int) (w : World) : Calls Tryz.prog 257 #[.agg #[.int .i64 x.1, .int .i64 x.2], .agg #[.int .i64 y.1, .int .i64 y.2]] w fun e w' => e = .returned (.int .i64 (cmpPair x y)) ∧ ∃ q os, w' = grow (w.drewN q) os := by
 obtain ⟨x1, x2⟩ := x
 obtain ⟨y1, y2⟩ := y
 have hr : cmpPair (x1, x2) (y1, y2) = if (if x1 < y1 then (-1 : Int) else if y1 < x1 then 1 else 0) = 0 then (if x2 < y2 then -1 else if y2 < x2 then 1 else 0) else (if x1 < y1 then -1 else if y1 < x1 then 1 else 0) := by
  simp only [cmpPair]
  by_cases h1 : x1 < y1
  · simp [h1]
  · by_cases h2 : y1 < x1
    · simp [h1, h2]
    · simp [h1, h2]
 rw [hr]
 clear hr
 have hm1 := fun W => p_compare_calls x1 y1 W
 have hm2 := fun W => p_compare_calls x2 y2 W
 generalize (if x1 < y1 then (-1 : Int) else if y1 < x1 then 1 else 0) = r1 at hm1 ⊢
 generalize (if x2 < y2 then (-1 : Int) else if y2 < x2 then 1 else 0) = r2 at hm2 ⊢
 have hor := fun b W h0 h1 => p_or_calls b r1 r2 W h0 h1
 generalize (if r1 = 0 then r2 else r1) = r at hor ⊢
 go_enter Tryz.func257, Tryz.ntmps257
 go_wp2
 obtain ⟨W, hW⟩ : ∃ W : World, W = (w.alloc (Obj.cells #[Value.int IntKind.i64 x1, Value.int IntKind.i64 x2] 72)).alloc (Obj.cells #[Value.int IntKind.i64 y1, Value.int IntKind.i64 y2] 72) := ⟨_, rfl⟩
 have hG : W = grow w #[Obj.cells #[Value.int IntKind.i64 x1, Value.int IntKind.i64 x2] 72, Obj.cells #[Value.int IntKind.i64 y1, Value.int IntKind.i64 y2] 72] := by rw [hW, alloc_eq_grow, alloc_eq_grow, grow_grow]; rfl
 have hsz : W.heap.size = w.heap.size + 2 := by rw [hG]; simp [grow]
 have c1 : W.cell? ⟨w.heap.size, 0, none⟩ = some (.int .i64 x1) := by rw [hG]; simp [World.cell?, grow, Array.getElem?_append]
 have c2 : W.cell? ⟨w.heap.size, 1, none⟩ = some (.int .i64 x2) := by rw [hG]; simp [World.cell?, grow, Array.getElem?_append]
 have c3 : W.cell? ⟨w.heap.size + 1, 0, none⟩ = some (.int .i64 y1) := by rw [hG]; simp [World.cell?, grow, Array.getElem?_append]
 have c4 : W.cell? ⟨w.heap.size + 1, 1, none⟩ = some (.int .i64 y2) := by rw [hG]; simp [World.cell?, grow, Array.getElem?_append]
 have hfin : ∀ q os, ∃ q' os', grow (W.drewN q) os = grow (w.drewN q') os' := fun q os => ⟨q, #[Obj.cells #[Value.int IntKind.i64 x1, Value.int IntKind.i64 x2] 72, Obj.cells #[Value.int IntKind.i64 y1, Value.int IntKind.i64 y2] 72] ++ os, by
  rw [hG, ← grow_grow]; rfl⟩
 clear hG
 have old : ∀ (ad : Addr) (v : Value), ad.block < w.heap.size + 2 → W.cell? ad = some v → ∀ w', (∃ q os, w' = grow (W.drewN q) os) → w'.cell? ad = some v := by
  rintro ad v hb hc w' ⟨q, os, rfl⟩
  rw [World.cell?_of_block (w := W) (by simp only [grow]; rw [Array.getElem?_append_left (by show ad.block < W.heap.size; omega)]; rfl)]
  exact hc
 rw [← hW]
 clear hW
 generalize hB : w.heap.size = B at *
 have c1 := old _ _ (by show B < B + 2; omega) c1
 have c2 := old _ _ (by show B < B + 2; omega) c2
 have c3 := old _ _ (by show B + 1 < B + 2; omega) c3
 have c4 := old _ _ (by show B + 1 < B + 2; omega) c4
 clear old hsz hB
 refine begin1 (by kernel_rfl) fun T hT => ?_
 have hT : ∀ t ∈ T, t.1 = fun w' => ∃ q os, w' = grow (W.drewN q) os := by subst hT; simp
 have hS : ∃ q os, W.drewN 1 = grow (W.drewN q) os := ⟨1, #[], by rw [grow_empty]⟩
 have hS0 := Aside0.mk hS
 refine pick1 (i := 0) (l' := #[true, false, false, false, false, false, false, false, false, false, false, false, false]) (v := .pointer (some ⟨B, 0, none⟩)) (a' := ⟨#[.agg #[.int .i64 x1, .int .i64 x2], .agg #[.int .i64 y1, .int .i64 y2], .pointer (some ⟨B, 0, none⟩), .pointer (some ⟨B + 1, 0, none⟩), .int .i64 0, .pointer (some ⟨B, 0, none⟩), undef, undef, undef, undef, undef, undef, undef, undef, undef, undef, undef], []⟩) rfl (by kernel_rfl) (by kernel_rfl) (fun _ _ _ h => h) rfl ?hy hS hT rfl (fun T hT => ?_)
 case hy =>
  intro w' hw'
  go_simp
 refine pick1 (i := 1) (l' := #[true, true, false, false, false, false, false, false, false, false, false, false, false]) (v := .int .i64 x1) (a' := ⟨#[.agg #[.int .i64 x1, .int .i64 x2], .agg #[.int .i64 y1, .int .i64 y2], .pointer (some ⟨B, 0, none⟩), .pointer (some ⟨B + 1, 0, none⟩), .int .i64 0, .pointer (some ⟨B, 0, none⟩), .int .i64 x1, undef, undef, undef, undef, undef, undef, undef, undef, undef, undef], []⟩) rfl (by kernel_rfl) (by kernel_rfl) (fun _ _ _ h => h) rfl ?hy hS hT rfl (fun T hT => ?_)
 case hy =>
  intro w' hw'
  have hc := c1 w' hw'
  go_simp
 refine pick1 (i := 2) (l' := #[true, true, true, false, false, false, false, false, false, false, false, false, false]) (v := .pointer (some ⟨B + 1, 0, none⟩)) (a' := ⟨#[.agg #[.int .i64 x1, .int .i64 x2], .agg #[.int .i64 y1, .int .i64 y2], .pointer (some ⟨B, 0, none⟩), .pointer (some ⟨B + 1, 0, none⟩), .int .i64 0, .pointer (some ⟨B, 0, none⟩), .int .i64 x1, .pointer (some ⟨B + 1, 0, none⟩), undef, undef, undef, undef, undef, undef, undef, undef, undef], []⟩) rfl (by kernel_rfl) (by kernel_rfl) (fun _ _ _ h => h) rfl ?hy hS hT rfl (fun T hT => ?_)
 case hy =>
  intro w' hw'
  go_simp
 refine pick1 (i := 3) (l' := #[true, true, true, true, false, false, false, false, false, false, false, false, false]) (v := .int .i64 y1) (a' := ⟨#[.agg #[.int .i64 x1, .int .i64 x2], .agg #[.int .i64 y1, .int .i64 y2], .pointer (some ⟨B, 0, none⟩), .pointer (some ⟨B + 1, 0, none⟩), .int .i64 0, .pointer (some ⟨B, 0, none⟩), .int .i64 x1, .pointer (some ⟨B + 1, 0, none⟩), .int .i64 y1, undef, undef, undef, undef, undef, undef, undef, undef], []⟩) rfl (by kernel_rfl) (by kernel_rfl) (fun _ _ _ h => h) rfl ?hy hS hT rfl (fun T hT => ?_)
 case hy =>
  intro w' hw'
  have hc := c3 w' hw'
  go_simp
 refine pick1 (i := 5) (l' := #[true, true, true, true, false, true, false, false, false, false, false, false, false]) (v := .pointer (some ⟨B, 1, none⟩)) (a' := ⟨#[.agg #[.int .i64 x1, .int .i64 x2], .agg #[.int .i64 y1, .int .i64 y2], .pointer (some ⟨B, 0, none⟩), .pointer (some ⟨B + 1, 0, none⟩), .int .i64 0, .pointer (some ⟨B, 0, none⟩), .int .i64 x1, .pointer (some ⟨B + 1, 0, none⟩), .int .i64 y1, undef, .pointer (some ⟨B, 1, none⟩), undef, undef, undef, undef, undef, undef], []⟩) rfl (by kernel_rfl) (by kernel_rfl) (fun _ _ _ h => h) rfl ?hy hS hT rfl (fun T hT => ?_)
 case hy =>
  intro w' hw'
  go_simp
 refine pick1 (i := 6) (l' := #[true, true, true, true, false, true, true, false, false, false, false, false, false]) (v := .int .i64 x2) (a' := ⟨#[.agg #[.int .i64 x1, .int .i64 x2], .agg #[.int .i64 y1, .int .i64 y2], .pointer (some ⟨B, 0, none⟩), .pointer (some ⟨B + 1, 0, none⟩), .int .i64 0, .pointer (some ⟨B, 0, none⟩), .int .i64 x1, .pointer (some ⟨B + 1, 0, none⟩), .int .i64 y1, undef, .pointer (some ⟨B, 1, none⟩), .int .i64 x2, undef, undef, undef, undef, undef], []⟩) rfl (by kernel_rfl) (by kernel_rfl) (fun _ _ _ h => h) rfl ?hy hS hT rfl (fun T hT => ?_)
 case hy =>
  intro w' hw'
  have hc := c2 w' hw'
  go_simp
 refine pick1 (i := 7) (l' := #[true, true, true, true, false, true, true, true, false, false, false, false, false]) (v := .pointer (some ⟨B + 1, 1, none⟩)) (a' := ⟨#[.agg #[.int .i64 x1, .int .i64 x2], .agg #[.int .i64 y1, .int .i64 y2], .pointer (some ⟨B, 0, none⟩), .pointer (some ⟨B + 1, 0, none⟩), .int .i64 0, .pointer (some ⟨B, 0, none⟩), .int .i64 x1, .pointer (some ⟨B + 1, 0, none⟩), .int .i64 y1, undef, .pointer (some ⟨B, 1, none⟩), .int .i64 x2, .pointer (some ⟨B + 1, 1, none⟩), undef, undef, undef, undef], []⟩) rfl (by kernel_rfl) (by kernel_rfl) (fun _ _ _ h => h) rfl ?hy hS hT rfl (fun T hT => ?_)
 case hy =>
  intro w' hw'
  go_simp
 refine pick1 (i := 8) (l' := #[true, true, true, true, false, true, true, true, true, false, false, false, false]) (v := .int .i64 y2) (a' := ⟨#[.agg #[.int .i64 x1, .int .i64 x2], .agg #[.int .i64 y1, .int .i64 y2], .pointer (some ⟨B, 0, none⟩), .pointer (some ⟨B + 1, 0, none⟩), .int .i64 0, .pointer (some ⟨B, 0, none⟩), .int .i64 x1, .pointer (some ⟨B + 1, 0, none⟩), .int .i64 y1, undef, .pointer (some ⟨B, 1, none⟩), .int .i64 x2, .pointer (some ⟨B + 1, 1, none⟩), .int .i64 y2, undef, undef, undef], []⟩) rfl (by kernel_rfl) (by kernel_rfl) (fun _ _ _ h => h) rfl ?hy hS hT rfl (fun T hT => ?_)
 case hy =>
  intro w' hw'
  have hc := c4 w' hw'
  go_simp
 refine sole1 (i := 4) (l' := #[true, true, true, true, true, true, true, true, true, false, false, false, false]) rfl (by kernel_rfl) rfl hT (fun K hK => ?_)
 go_simp
 refine (hm1 _).mono ?_
 rintro _ _ ⟨rfl, q, rfl⟩
 have hS1 : ∃ q' os', (W.drewN 1).drewN q = grow (W.drewN q') os' := by
  obtain ⟨q', os', e⟩ := hS
  exact ⟨q' + q, os', by rw [e]; simp [grow, World.drewN, Nat.add_assoc]⟩
 refine hK _ _ hS1 (fun T hT => ?_)
 clear hK hS K
 generalize (W.drewN 1).drewN q = w1 at hS1 ⊢
 have hS := hS1
 clear hS1
 refine sole1 (i := 9) (l' := #[true, true, true, true, true, true, true, true, true, true, false, false, false]) rfl (by kernel_rfl) rfl hT (fun K hK => ?_)
 go_simp
 refine (hm2 _).mono ?_
 rintro _ _ ⟨rfl, q, rfl⟩
 have hS1 : ∃ q' os', w1.drewN q = grow (W.drewN q') os' := by
  obtain ⟨q', os', e⟩ := hS
  exact ⟨q' + q, os', by rw [e]; simp [grow, World.drewN, Nat.add_assoc]⟩
 refine hK _ _ hS1 (fun T hT => ?_)
 clear hK hS K
 generalize w1.drewN q = w2 at hS1 ⊢
 have hS := hS1
 clear hS1
 refine sole1 (i := 10) (l' := #[true, true, true, true, true, true, true, true, true, true, true, false, false]) rfl (by kernel_rfl) rfl hT (fun K hK => ?_)
 go_simp
 have hS1 : ∃ q' os', w2.alloc (Obj.cells #[Value.int IntKind.i64 r1, Value.int IntKind.i64 r2] 3) = grow (W.drewN q') os' := by
  obtain ⟨q', os', e⟩ := hS
  exact ⟨q', os' ++ #[Obj.cells #[Value.int IntKind.i64 r1, Value.int IntKind.i64 r2] 3], by rw [alloc_eq_grow, e, grow_grow]⟩
 refine hK _ _ hS1 (fun T hT => ?_)
 clear hK hS K
 have d1 : (w2.alloc (Obj.cells #[Value.int IntKind.i64 r1, Value.int IntKind.i64 r2] 3)).cell? ⟨w2.heap.size, 0, none⟩ = some (.int .i64 r1) := by simp only [World.cell?]; rw [heap_alloc_new]; rfl
 have d2 : (w2.alloc (Obj.cells #[Value.int IntKind.i64 r1, Value.int IntKind.i64 r2] 3)).cell? ⟨w2.heap.size, 1, none⟩ = some (.int .i64 r2) := by simp only [World.cell?]; rw [heap_alloc_new]; rfl
 have ho := hor _ _ d1 d2
 clear d1 d2 hor
 generalize w2.alloc (Obj.cells #[Value.int IntKind.i64 r1, Value.int IntKind.i64 r2] 3) = w3 at hS1 ho ⊢
 have hS := hS1
 clear hS1
 refine sole1 (i := 11) (l' := #[true, true, true, true, true, true, true, true, true, true, true, true, false]) rfl (by kernel_rfl) rfl hT (fun K hK => ?_)
 go_simp
 refine (ho).mono ?_
 rintro _ _ ⟨rfl, q, rfl⟩
 have hS1 : ∃ q' os', w3.drewN q = grow (W.drewN q') os' := by
  obtain ⟨q', os', e⟩ := hS
  exact ⟨q' + q, os', by rw [e]; simp [grow, World.drewN, Nat.add_assoc]⟩
 refine hK _ _ hS1 (fun T hT => ?_)
 clear hK hS K
 generalize w3.drewN q = w4 at hS1 ⊢
 have hS := hS1
 clear hS1
 refine sole1 (i := 12) (l' := #[true, true, true, true, true, true, true, true, true, true, true, true, true]) rfl (by kernel_rfl) rfl hT (fun K hK => ?_)
 go_simp
 refine hK _ _ hS (fun T hT => ?_)
 clear hK K
 refine all1 (by kernel_rfl) ?_
 go_wp2
 go_ret
 obtain ⟨q', os', rfl⟩ := hS
 exact ⟨rfl, hfin q' os'⟩
theorem sortPairs_s : (sortPairsFn 256 257).Says Tryz.prog := sortPairsFn_says fun xs h =>
 sortPairs_contract ⟨_, _, Tryz.func256, by kernel_rfl, rfl⟩
  (fun blk off cap d w hc hH hb hs => AnyQ.slices_SortFunc_total Tryz.sortPairs 2 (fun w => Tryz.isAgg72 w) (fun w => Tryz.sizeOf72 w) encPair (fun _ => rfl) (fun x v hv => by
   simp only [encPair, List.mem_cons, List.not_mem_nil, or_false] at hv
   rcases hv with rfl | rfl <;> rfl) cmpPair swo_pair 257 #[] blk off cap d w (enters_of Tryz.func257 (by kernel_rfl) rfl) hc hH hb hs pair_total)
  (fun p cap fv w => AnyF.slices_SortFunc_none Tryz.sortPairs p cap fv w) p_pairs_calls xs h
end Go.Proofs.YtcabghamgilafaaGreat.V
namespace Go.Proofs.YtcabghamgilafaaGreat.V
open Go Go.Ve Go.Proofs
theorem compact_s : (compactFn 300).Says Tryz.prog := compactFn_says (compact_contract ⟨_, _, Tryz.func300, by kernel_rfl, rfl⟩ (fun blk off cap zs w => Tryz.slices_Compact_int blk off cap zs w) Tryz.slices_Compact_int_empty)
theorem clone_s : (cloneFn 148).Says Tryz.prog := cloneFn_says (clone_contract ⟨_, _, Tryz.func148, by kernel_rfl, rfl⟩ (fun b off n c zs w => Tryz.slices_Clone_int b off n c zs w) (fun a c w => (Tryz.slices_Clone_int_zero a c w).mono fun _ _ ⟨v, h1, h2, _, h3⟩ => ⟨v, h1, h2, h3⟩) Tryz.slices_Clone_int_nil)
theorem sort_s : (sortFn 280).Says Tryz.prog := sortFn_says (sort_contract ⟨_, _, Tryz.func280, by kernel_rfl, rfl⟩ Tryz.slices_Sort_int Tryz.slices_Sort_int_none)
theorem sortsIn (m : Nat) : Vo.SortsIn Fence.wide m := ⟨fun blk off cap zs W hH hb hs => callsIn_wide.2 (Tryz.slices_Sort_int blk off cap zs W hH hb hs), fun p cap W => callsIn_wide.2 (Tryz.slices_Sort_int_none p cap W)⟩
theorem Sorted_s (m : Mask) (hm : m = .shr ∨ m = .own .shr) : (sortedFn 295 328 m).Says Tryz.prog := by
 intro x y p hp
 obtain ⟨hg, hp⟩ := guardB_some hp
 injection hp with hp
 subst hp
 exact Vq.sorted_contract m hm sortsIn y.1 (by simpa using hg)
end Go.Proofs.YtcabghamgilafaaGreat.V
