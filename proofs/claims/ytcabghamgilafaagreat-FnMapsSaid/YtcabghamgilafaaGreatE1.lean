/-
 An evaluator of the code over typed data, proved sound once (part 1 of 4).
-/
import Derived.Calls
import Derived.KernelRfl
import Derived.Below
import Derived.Laws.AppendOwn
import Derived.Laws.MakeOwn
import Derived.Deep.Draws
import Derived.Laws.StructEq
import Derived.ChangeKeysEq
set_option linter.unusedVariables false
set_option linter.unusedSimpArgs false
namespace Go.Ve
inductive Ty where
 | int (k : IntKind) | bool | str | list (t : Ty) | prod (a b : Ty) | unit
 deriving DecidableEq
@[reducible] def Ty.den : Ty → Type
 | .int _ => Int
 | .bool => Bool
 | .str => ByteArray
 | .list t => List t.den
 | .prod a b => a.den × b.den
 | .unit => Unit
def Ty.zero : (t : Ty) → t.den
 | .int _ => (0 : Int)
 | .bool => false
 | .str => (⟨#[]⟩ : ByteArray)
 | .list t => ([] : List t.den)
 | .prod a b => (a.zero, b.zero)
 | .unit => ()
def Ty.size : Ty → Nat
 | .prod a b => a.size + b.size
 | .unit => 0
 | _ => 1
def Ty.isProd : Ty → Bool
 | .prod _ _ => true
 | _ => false
def Ty.lists : Ty → Bool
 | .list _ => true
 | .prod a b => a.lists || b.lists
 | _ => false
inductive Step where
 | fst | snd | idx (i : Nat) | arr (i : Nat)
 deriving DecidableEq
def noArr : List Step → Bool
 | [] => true
 | .arr _ :: _ => false
 | _ :: p => noArr p
abbrev Id := Nat × Nat
structure Val where
 t : Ty
 x : t.den
inductive Mask where
 | shr | own (m : Mask) | prod (a b : Mask)
 deriving DecidableEq
def Mask.fst : Mask → Mask
 | .prod a _ => a
 | _ => .shr
def Mask.snd : Mask → Mask
 | .prod _ b => b
 | _ => .shr
def Mask.elem : Mask → Mask
 | .own m => m
 | _ => .shr
def Mask.mk (a b : Mask) : Mask := match a, b with
 | .shr, .shr => .shr
 | a, b => .prod a b
def Ty.full : Ty → Mask
 | .list t => .own t.full
 | .prod a b => Mask.mk a.full b.full
 | _ => .shr
def Mask.meet : Mask → Mask → Mask
 | .own a, .own b => .own (a.meet b)
 | .prod a b, .prod c d => Mask.mk (a.meet c) (b.meet d)
 | _, _ => .shr
def Mask.covers (a b : Mask) : Bool := a.meet b == b
structure FnV where
 f : FuncId
 caps : List Id
 deriving DecidableEq
inductive TV where
 | dead | nil
 | val (v : Val)
 | ref (id : Id) (p : List Step)
 | sub (id : Id) (p : List Step) (lo hi : Nat)
 | addr (id : Id) (p : List Step)
 | saddr (v : Val)
 | fn (g : FnV) | nilfn
 | pr (a b : TV)
 | tup (l : List TV)
 | tad (A : TV)      -- the address of cells that nobody writes, and what they hold
inductive Ob where
 | vec (m : Mask) (t : Ty) (xs : List t.den)
 | box (m : Mask) (v : Val)
 | fbox (g : Option FnV)
structure St where
 tmp : Nat → TV
 obj : Id → Option Ob
 hole : Option (Id × List Step)
def TV.mkpr (a b : TV) : TV := match a, b with
 | .val v, .val w => .val ⟨.prod v.t w.t, (v.x, w.x)⟩
 | a, b => .pr a b
structure TI where
 ty : Ty
 arity : Nat
 bytes : Nat      -- of one element, where it is a slice type
 isArr : Bool
inductive TK where
 | data (i : TI) | fn
def Tab := List (TypeId × TK)
def Tab.find : Tab → TypeId → Option TK
 | [], _ => none
 | (a, k) :: l, t => bif a == t then some k else Tab.find l t
def Tab.ti (l : Tab) (t : TypeId) : Option TI := match l.find t with
 | some (.data i) => some i
 | _ => none
def fieldSteps : Nat → Nat → List Step
 | 0, _ => []
 | 1, _ => []
 | _ + 2, 0 => [.fst]
 | n + 2, j + 1 => .snd :: fieldSteps (n + 1) j
def castTo (t : Ty) (v : Val) : Option t.den := if h : v.t = t then some (h ▸ v.x) else none
def castD (t : Ty) (v : Val) : t.den := if h : v.t = t then h ▸ v.x else t.zero
def arrGet (i : Nat) : Val → Option Val
 | ⟨.prod a b, x⟩ => match decEq b a with
  | isTrue h => bif a.lists then none else some ⟨a, bif Nat.beq i 0 then x.1 else h ▸ x.2⟩
  | isFalse _ => none
 | _ => none
def arrSet (i : Nat) : (v : Val) → Val → v.t.den
 | ⟨.prod a b, x⟩, w => bif Nat.beq i 0 then (castD a w, x.2) else (x.1, castD b w)
 | v, _ => v.x
def get : List Step → Mask → Val → Option (Mask × Val)
 | [], m, v => some (m, v)
 | .fst :: p, m, ⟨.prod a _, x⟩ => get p m.fst ⟨a, x.1⟩
 | .snd :: p, m, ⟨.prod _ b, x⟩ => get p m.snd ⟨b, x.2⟩
 | .idx i :: p, .own m, ⟨.list t, xs⟩ => get p m ⟨t, xs.getD i t.zero⟩
 | [.arr i], _, v => match arrGet i v with
  | some w => some (.shr, w)
  | none => none
 | _, _, _ => none
def setMask : List Step → Mask → Ty → Mask → Option Mask
 | [], _, _, m' => some m'
 | .fst :: p, m, .prod a _, m' => match setMask p m.fst a m' with
  | some q => some (Mask.mk q m.snd)
  | none => none
 | .snd :: p, m, .prod _ b, m' => match setMask p m.snd b m' with
  | some q => some (Mask.mk m.fst q)
  | none => none
 | .idx _ :: p, .own m, .list t, m' => match setMask p m t m' with
  | some q => bif q == m then some (.own m) else none
  | none => none
 | [.arr _], m, _, _ => some m
 | _, _, _, _ => none
def setVal : List Step → (v : Val) → Val → v.t.den
 | [], v, w => castD v.t w
 | .fst :: p, ⟨.prod a b, x⟩, w => (setVal p ⟨a, x.1⟩ w, x.2)
 | .snd :: p, ⟨.prod a b, x⟩, w => (x.1, setVal p ⟨b, x.2⟩ w)
 | .idx i :: p, ⟨.list t, xs⟩, w => match p with
  | [] => xs.set i (castD t w)
  | _ => xs.set i (setVal p ⟨t, xs.getD i t.zero⟩ w)
 | [.arr i], v, w => arrSet i v w
 | _, v, _ => v.x
def getS : List Step → Val → Option Val
 | [], v => some v
 | .fst :: p, ⟨.prod a _, x⟩ => getS p ⟨a, x.1⟩
 | .snd :: p, ⟨.prod _ b, x⟩ => getS p ⟨b, x.2⟩
 | .idx i :: p, ⟨.list t, xs⟩ => getS p ⟨t, xs.getD i t.zero⟩
 | _, _ => none
def view (id : Id) : (p : List Step) → Mask → (t : Ty) → t.den → TV
 | p, .own _, .list _, _ => .ref id p
 | p, .prod ma mb, .prod a b, x => .mkpr (view id (p ++ [.fst]) ma a x.1) (view id (p ++ [.snd]) mb b x.2)
 | _, _, t, x => .val ⟨t, x⟩
def Ob.root : Ob → Option (Mask × Val)
 | .vec m t xs => some (.own m, ⟨.list t, xs⟩)
 | .box m v => some (m, v)
 | .fbox _ => none
def Ob.put (o : Ob) (m : Mask) (v : Val) : Option Ob := match o with
 | .vec _ t _ => match m with
  | .own m => (castTo (.list t) v).map fun xs => .vec m t xs
  | _ => none
 | .box _ w => (castTo w.t v).map fun x => .box m ⟨w.t, x⟩
 | .fbox _ => none
inductive Sig where
 | vec (t : Ty) | box (t : Ty) | fbox
def Ob.sig : Ob → Sig
 | .vec _ t _ => .vec t
 | .box _ v => .box v.t
 | .fbox _ => .fbox
def St.sig (s : St) (id : Id) : Option Sig := (s.obj id).map Ob.sig
def arrEl : Ty → Option Ty
 | .prod a b => match decEq b a with
  | isTrue _ => bif a.lists then none else some a
  | isFalse _ => none
 | _ => none
def stepTy : Ty → Step → Option Ty
 | .prod a _, .fst => some a
 | .prod _ b, .snd => some b
 | .list t, .idx _ => some t
 | t, .arr _ => arrEl t
 | _, _ => none
def tyAt : Ty → List Step → Option Ty
 | t, [] => some t
 | t, s :: p => match stepTy t s with
  | some u => tyAt u p
  | none => none
def Sig.ty : Sig → Ty
 | .vec t => .list t
 | .box t => t
 | .fbox => .unit
def St.tyOf (s : St) (id : Id) (p : List Step) : Option Ty := match s.obj id with
 | some o => tyAt o.sig.ty p
 | none => none
def upd {α : Type} (f : Nat → α) (n : Nat) (x : α) : Nat → α := fun u => bif Nat.beq u n then x else f u
def updI {α : Type} (f : Id → α) (n : Id) (x : α) : Id → α := fun u => bif Nat.beq u.1 n.1 && Nat.beq u.2 n.2 then x else f u
def sameId (a b : Id) : Bool := Nat.beq a.1 b.1 && Nat.beq a.2 b.2
def TV.looks (deep : Bool) (id : Id) : TV → Bool
 | .ref i p | .sub i p _ _ | .addr i p => sameId i id && (!deep || !p.isEmpty)
 | .fn g => !deep && g.caps.any (sameId id)
 | .pr a b => a.looks deep id || b.looks deep id
 | .tup l => looksAny deep id l
 | .tad A => A.looks deep id
 | _ => false
where looksAny (deep : Bool) (id : Id) : List TV → Bool
 | [] => false
 | a :: l => a.looks deep id || looksAny deep id l
def TV.sees (root : Bool) (id : Id) : TV → Bool
 | .ref i p | .sub i p _ _ => sameId i id && (root || !p.isEmpty)
 | .addr i p => sameId i id && !p.isEmpty
 | .pr a b => a.sees root id || b.sees root id
 | .tup l => seesAny root id l
 | .tad A => A.sees root id
 | _ => false
where seesAny (root : Bool) (id : Id) : List TV → Bool
 | [] => false
 | a :: l => a.sees root id || seesAny root id l
def divg : List Step → List Step → Bool
 | .fst :: p, .fst :: q => divg p q
 | .snd :: p, .snd :: q => divg p q
 | .fst :: _, .snd :: _ => true
 | .snd :: _, .fst :: _ => true
 | _, _ => false
def TV.seesP (p : List Step) (root : Bool) (id : Id) : TV → Bool
 | .ref i q | .sub i q _ _ => sameId i id && (root || !q.isEmpty) && !divg p q
 | .addr i q => sameId i id && !q.isEmpty && !divg p q
 | .pr a b => a.seesP p root id || b.seesP p root id
 | .tup l => seesPAny p root id l
 | .tad A => A.seesP p root id
 | _ => false
where seesPAny (p : List Step) (root : Bool) (id : Id) : List TV → Bool
 | [] => false
 | a :: l => a.seesP p root id || seesPAny p root id l
def Ob.holds (id : Id) : Option Ob → Bool
 | some (.fbox (some g)) => g.caps.any (sameId id)
 | _ => false
def St.kill (s : St) (deep : Bool) (id : Id) : St := { s with tmp := fun u => bif (s.tmp u).looks deep id then .dead else s.tmp u }
def St.hush (s : St) (id : Id) : St := match s.obj id with
 | some (.vec ..) => { s with tmp := fun u => bif (s.tmp u).sees false id then .dead else s.tmp u }
 | _ => { s with tmp := fun u => bif (s.tmp u).sees true id then .dead else s.tmp u }
def St.hushP (s : St) (id : Id) (p : List Step) : St := match s.obj id with
 | some (.vec ..) => { s with tmp := fun u => bif (s.tmp u).seesP p false id then .dead else s.tmp u }
 | _ => { s with tmp := fun u => bif (s.tmp u).seesP p true id then .dead else s.tmp u }
def St.set (s : St) (t : Nat) (v : TV) : St := { s with tmp := upd s.tmp t v }
def St.setD (s : St) (t : Option Tmp) (v : TV) : St := match t with
 | some t => s.set t v
 | none => s
def St.drop (s : St) (id : Id) : St := { s with obj := updI s.obj id none }
def St.put (s : St) (id : Id) (o : Ob) : St := { s with obj := updI s.obj id (some o) }
def St.purge (s : St) (id : Id) : St := { (s.kill false id) with obj := fun i => bif Ob.holds id (s.obj i) then none else s.obj i }
def St.new (s : St) (id : Id) (o : Ob) : St := (s.purge id).put id o
def St.at (s : St) (id : Id) (p : List Step) : Option (Mask × Val) := match s.obj id with
 | some o => match o.root with
  | some (m, v) => get p m v
  | none => none
 | none => none
def St.seen (s : St) (id : Id) (p : List Step) : Option (Mask × Val) := match s.hole with
 | none => s.at id p
 | some _ => match p with
  | [] => match s.obj id with
   | some (.vec m t xs) => some (.own m, ⟨.list t, xs⟩)
   | _ => none
  | _ => none
def constTV : Value → TV
 | .int k n => .val ⟨.int k, n⟩
 | .bool b => .val ⟨.bool, b⟩
 | .string s => .val ⟨.str, s⟩
 | .slice none 0 0 => .nil
 | .nilFunc => .nilfn
 | _ => .dead
def St.ev (s : St) : Operand → TV
 | .tmp t => s.tmp t
 | .const v => constTV v
 | .func f => .fn ⟨f, []⟩
 | .global _ => .dead
def St.isVec (s : St) (id : Id) (p : List Step) : Bool := match p with
 | [] => match s.obj id with
  | some (.vec ..) => true
  | _ => false
 | _ => false
def St.free (s : St) (id : Id) : Bool := match s.hole with
 | some (i, _) => !sameId i id
 | none => true
def sameSteps : List Step → List Step → Bool
 | [], [] => true
 | .fst :: p, .fst :: q | .snd :: p, .snd :: q => sameSteps p q
 | .idx i :: p, .idx j :: q => Nat.beq i j && sameSteps p q
 | .arr i :: p, .arr j :: q => Nat.beq i j && sameSteps p q
 | _, _ => false
def TV.refs : TV → Nat
 | .ref _ _ | .sub _ _ _ _ => 1
 | .pr a b => a.refs + b.refs
 | _ => 0
def TV.first : TV → Option Id
 | .ref i _ => some i
 | .pr a b => match a.first with
  | some i => some i
  | none => b.first
 | _ => none
def takeIn (id : Id) : TV → Mask → (t : Ty) → t.den → List Step → Option (Mask × Val)
 | .val v, _, _, _, _ => some (.shr, v)
 | .ref i p, .own m, .list t, xs, q => bif sameId i id && sameSteps p q then some (.own m, ⟨.list t, xs⟩) else none
 | .pr a b, m, .prod ta tb, x, q => match takeIn id a m.fst ta x.1 (q ++ [.fst]) with
  | some (ma, va) => match takeIn id b m.snd tb x.2 (q ++ [.snd]) with
   | some (mb, vb) => some (Mask.mk ma mb, ⟨.prod va.t vb.t, (va.x, vb.x)⟩)
   | none => none
  | none => none
 | _, _, _, _, _ => none
def St.takeBox (s : St) (A : TV) : Option (Mask × Val × St) := match Nat.ble 1 A.refs with
 | false => none
 | true => match A.first with
  | none => none
  | some id => match s.obj id with
   | some (.box m v) => bif s.free id then match takeIn id A m v.t v.x [] with
    | some (m', v') => some (m', v', (s.purge id).drop id)
    | none => none
    else none
   | _ => none
def St.take (s : St) (want : Ty) : TV → Option (Mask × Val × St)
 | .val v => some (.shr, v, s)
 | .nil => match want with
  | .list t => some (.own t.full, ⟨.list t, []⟩, s)
  | _ => none
 | .ref id p => match s.isVec id p with
  | true => match s.obj id with
   | some (.vec m t xs) => bif s.free id then some (.own m, ⟨.list t, xs⟩, (s.purge id).drop id) else none
   | _ => none
  | false => match s.hole with
   | none => match s.at id p with
    | some (.own m, ⟨.list t, xs⟩) => some (.own m, ⟨.list t, xs⟩, { s with hole := some (id, p) })
    | _ => none
   | some _ => none
 | .sub id p lo hi => match s.isVec id p with
  | true => match s.obj id with
   | some (.vec m t xs) => bif s.free id then some (.own m, ⟨.list t, (xs.take hi).drop lo⟩, (s.purge id).drop id) else none
   | _ => none
  | false => match s.hole with
   | none => match s.at id p with
    | some (.own m, ⟨.list t, xs⟩) => some (.own m, ⟨.list t, (xs.take hi).drop lo⟩, { s with hole := some (id, p) })
    | _ => none
   | some _ => none
 | .pr a b => match s.takeBox (.pr a b) with
  | some r => some r
  | none => match want with
   | .prod ta tb => match s.take ta a with
    | some (ma, va, s) => match s.take tb b with
     | some (mb, vb, s) => some (Mask.mk ma mb, ⟨.prod va.t vb.t, (va.x, vb.x)⟩, s)
     | none => none
    | none => none
   | _ => none
 | _ => none
def St.look (s : St) (want : Ty) : TV → Option Val
 | .val v => some v
 | .nil => match want with
  | .list t => some ⟨.list t, []⟩
  | _ => none
 | .ref id p => match s.seen id p with
  | some (.own _, ⟨.list t, xs⟩) => some ⟨.list t, xs⟩
  | _ => none
 | .sub id p lo hi => match s.seen id p with
  | some (.own _, ⟨.list t, xs⟩) => some ⟨.list t, (List.take hi xs).drop lo⟩
  | _ => none
 | .pr a b => match want with
  | .prod ta tb => match s.look ta a, s.look tb b with
   | some va, some vb => some ⟨.prod va.t vb.t, (va.x, vb.x)⟩
   | _, _ => none
  | _ => none
 | _ => none
def bring (dst : Nat) : Mask → (t : Ty) → t.den → Nat → St → TV × Nat × St
 | .own m, .list t, xs, n, s => (.ref (dst, n) [], n + 1, s.new (dst, n) (.vec m t xs))
 | .prod ma mb, .prod a b, x, n, s =>
  let (ta, n, s) := bring dst ma a x.1 n s
  let (tb, n, s) := bring dst mb b x.2 n s
  (.mkpr ta tb, n, s)
 | _, t, x, n, s => (.val ⟨t, x⟩, n, s)
def St.assign (s : St) (d : Nat) (v : TV) : St := match v with
 | .ref id [] => match s.obj id with
  | some (.vec m t xs) => bif !sameId id (d, 0) && (s.free id && s.free (d, 0)) then (((s.purge id).drop id).new (d, 0) (.vec m t xs)).set d (.ref (d, 0) []) else s.set d v
  | _ => s.set d v
 | .sub id [] lo hi => match s.obj id with
  | some (.vec m t xs) => bif s.free id && s.free (d, 0) then (((s.purge id).drop id).new (d, 0) (.vec m t ((xs.take hi).drop lo))).set d (.ref (d, 0) []) else s.set d v
  | _ => s.set d v
 | _ => s.set d v
end Go.Ve
namespace Go.Ve
open Go
variable {α : Type}
inductive Ex where
 | nrm | ex (id : Nat) | ret
 deriving DecidableEq
inductive AT where
 | val (v : Val) | ref (u : Ty) (n : Nat) (p : List Step) | pr (a b : AT)
inductive Arg where
 | val (v : Val) | own (m : Mask) (v : Val) | ext (n : Nat) | adr (n : Nat) | cst (v : Val) | fn (f : FuncId) (ns : List Nat) | nilfn | str (T : AT)
abbrev Res := List (Mask × Val) × List Ob
structure Env where
 call : FuncId → List Arg → List Ob → {α : Type} → (Res → Option α) → Option α
 made : FuncId → Option (FuncId × TypeId)     -- boxes what it is given and hands back a closure over it
structure Cx where
 tab : Tab
 env : Env
 mode : FuncId → Nat → Nat     -- an argument: 0 lent, 1 lent to be written, 2 handed over
 keep : Nat → Bool             -- a variable whose object is not renamed at an assignment
 frz : List Id                 -- lists that are shared as soon as a region is left
 seals : List Id               -- boxes that nobody writes any more, once the region is left that made them
def guardB {α : Type} (b : Bool) (x : Option α) : Option α := bif b then x else none
def eqTy : (t : Ty) → t.den → t.den → Option Bool
 | .int _, x, y => some ((x : Int) == y)
 | .bool, x, y => some ((x : Bool) == y)
 | .str, x, y => some ((x : ByteArray).toList == (y : ByteArray).toList)
 | .prod a b, x, y => match eqTy a x.1 y.1, eqTy b x.2 y.2 with
  | some p, some q => some (p && q)
  | _, _ => none
 | _, _, _ => none
def arith (op : BinOp) (k : IntKind) (x y : Int) (K : Val → Option α) : Option α := match op with
 | .add => K ⟨.int k, k.wrap (x + y)⟩
 | .sub => K ⟨.int k, k.wrap (x - y)⟩
 | .mul => K ⟨.int k, k.wrap (x * y)⟩
 | .quo => guardB (!(y == 0)) (K ⟨.int k, k.wrap (x.tdiv y)⟩)
 | .rem => guardB (!(y == 0)) (K ⟨.int k, x.tmod y⟩)
 | .and => K ⟨.int k, k.wrap (BitVec.ofInt k.bits x &&& BitVec.ofInt k.bits y).toNat⟩
 | .or => K ⟨.int k, k.wrap (BitVec.ofInt k.bits x ||| BitVec.ofInt k.bits y).toNat⟩
 | .xor => K ⟨.int k, k.wrap (BitVec.ofInt k.bits x ^^^ BitVec.ofInt k.bits y).toNat⟩
 | .andNot => K ⟨.int k, k.wrap (BitVec.ofInt k.bits x &&& ~~~ BitVec.ofInt k.bits y).toNat⟩
 | .eql => K ⟨.bool, x == y⟩
 | .neq => K ⟨.bool, x != y⟩
 | .lss => K ⟨.bool, decide (x < y)⟩
 | .leq => K ⟨.bool, decide (x ≤ y)⟩
 | .gtr => K ⟨.bool, decide (y < x)⟩
 | .geq => K ⟨.bool, decide (y ≤ x)⟩
 | _ => none
def strOp (op : BinOp) (x y : ByteArray) (K : Val → Option α) : Option α := match op with
 | .add => guardB (decide (x.size + y.size ≤ 9223372036854775807)) (K ⟨.str, x ++ y⟩)
 | .eql => K ⟨.bool, x.toList == y.toList⟩
 | .neq => K ⟨.bool, !(x.toList == y.toList)⟩
 | .lss => K ⟨.bool, Op.bytesLess x.toList y.toList⟩
 | .leq => K ⟨.bool, Op.bytesLess x.toList y.toList || x.toList == y.toList⟩
 | .gtr => K ⟨.bool, !(Op.bytesLess x.toList y.toList || x.toList == y.toList)⟩
 | .geq => K ⟨.bool, !(Op.bytesLess x.toList y.toList)⟩
 | _ => none
def shiftOp (op : BinOp) (k : IntKind) (x y : Int) (K : Val → Option α) : Option α := match op with
 | .shl => guardB (decide (0 ≤ y)) (K ⟨.int k, k.wrap (x * 2 ^ (min y.toNat k.bits))⟩)
 | .shr => guardB (decide (0 ≤ y)) (K ⟨.int k, x.fdiv (2 ^ (min y.toNat k.bits))⟩)
 | _ => none
def isShift : BinOp → Bool
 | .shl | .shr => true
 | _ => false
def fnCmp (op : BinOp) (b : Bool) (K : Val → Option α) : Option α := match op with
 | .eql => K ⟨.bool, b⟩
 | .neq => K ⟨.bool, !b⟩
 | _ => none
def binV (tab : Tab) (T : TypeId) (op : BinOp) (a b : TV) (K : Val → Option α) : Option α := match a, b with
 | .val ⟨.int k, x⟩, .val ⟨.int j, y⟩ => bif isShift op then shiftOp op k x y K else match decEq k j with
  | isTrue _ => arith op k x y K
  | isFalse _ => none
 | .val ⟨.str, x⟩, .val ⟨.str, y⟩ => strOp op x y K
 | .val v, .val v' => match tab.ti T with
  | some i => match castTo i.ty v, castTo i.ty v' with
   | some x, some y => match eqTy i.ty x y with
    | some b => match op with
     | .eql => K ⟨.bool, b⟩
     | .neq => K ⟨.bool, !b⟩
     | _ => none
    | none => none
   | _, _ => none
  | none => none
 | .fn _, .nilfn => match tab.find T with
  | some .fn => fnCmp op false K
  | _ => none
 | .nilfn, .fn _ => match tab.find T with
  | some .fn => fnCmp op false K
  | _ => none
 | .nilfn, .nilfn => match tab.find T with
  | some .fn => fnCmp op true K
  | _ => none
 | _, _ => none
def unV (op : UnOp) (a : TV) (K : Val → Option α) : Option α := match op, a with
 | .not, .val ⟨.bool, b⟩ => K ⟨.bool, !b⟩
 | .neg, .val ⟨.int k, x⟩ => K ⟨.int k, k.wrap (0 - x)⟩
 | .xor, .val ⟨.int k, x⟩ => K ⟨.int k, k.wrap (BitVec.ofInt k.bits (if k.signed then -1 else k.max) ^^^ BitVec.ofInt k.bits x).toNat⟩
 | _, _ => none
def lenV (s : St) (v : TV) : Option Nat := match v with
 | .val ⟨.list _, xs⟩ => some (List.length xs)
 | .nil => some 0
 | .sub _ _ lo hi => some (hi - lo)
 | .ref id p => match s.seen id p with
  | some (.own _, ⟨.list _, xs⟩) => some (List.length xs)
  | _ => none
 | _ => none
def compTy : Nat → Nat → Ty → Option Ty
 | 1, 0, t => some t
 | n + 2, 0, .prod a _ => some a
 | n + 2, j + 1, .prod _ b => compTy (n + 1) j b
 | _, _, _ => none
def compOff : Nat → Nat → Ty → Nat
 | n + 2, j + 1, .prod a b => a.size + compOff (n + 1) j b
 | _, _, _ => 0
def St.fits (s : St) : Ty → TV → Bool
 | t, .val v => decide (v.t = t)
 | .list _, .nil => true
 | t, .ref id p => decide (s.tyOf id p = some t)
 | t, .sub id p _ _ => decide (s.tyOf id p = some t)
 | .prod a b, .pr x y => s.fits a x && s.fits b y
 | _, _ => false
def comp : Nat → Nat → TV → TV
 | 1, _, v => v
 | n + 2, 0, .pr a _ => a
 | n + 2, j + 1, .pr _ b => comp (n + 1) j b
 | n + 2, 0, .val ⟨.prod a _, x⟩ => .val ⟨a, x.1⟩
 | n + 2, j + 1, .val ⟨.prod _ b, x⟩ => comp (n + 1) j (.val ⟨b, x.2⟩)
 | _, _, _ => .dead
def valComp : Nat → Nat → Val → Option Val
 | 1, _, v => some v
 | n + 2, 0, ⟨.prod a _, x⟩ => some ⟨a, x.1⟩
 | n + 2, j + 1, ⟨.prod _ b, x⟩ => valComp (n + 1) j ⟨b, x.2⟩
 | _, _, _ => none
def intOf (v : TV) : Option Int := match v with
 | .val ⟨.int _, i⟩ => some i
 | _ => none
def indexAddrV (i : TI) (s : St) (x : TV) (j : Int) (K : TV → Option α) : Option α := match i.ty with
 | .list e => match x with
  | .val v => match castTo (.list e) v with
   | some xs => guardB (decide (0 ≤ j) && decide (j < (List.length xs : Int))) (K (.saddr ⟨e, List.getD xs j.toNat e.zero⟩))
   | none => none
  | .ref id p => match s.seen id p with
   | some (.own _, v) => match castTo (.list e) v with
    | some xs => bif noArr p then guardB (decide (0 ≤ j) && decide (j < (List.length xs : Int))) (K (.addr id (p ++ [.idx j.toNat]))) else none
    | none => none
   | _ => none
  | .sub id p lo hi => bif noArr p && decide (s.tyOf id p = some (.list e)) then guardB (decide (0 ≤ j) && decide (j < (hi : Int) - lo)) (K (.addr id (p ++ [.idx (lo + j.toNat)]))) else none
  | _ => none
 | .prod e f => bif i.isArr then match x with
  | .addr id p => bif noArr p && decide (s.tyOf id p = some (.prod e f)) && !e.lists then guardB (decide (0 ≤ j) && decide (j < 2)) (K (.addr id (p ++ [.arr j.toNat]))) else none
  | .saddr v => match castTo (.prod e f) v with
   | some y => guardB (decide (0 ≤ j) && decide (j < 2)) (match arrGet j.toNat ⟨.prod e f, y⟩ with
    | some w => K (.saddr w)
    | none => none)
   | none => none
  | _ => none
  else none
 | _ => none
def loadV (t : TK) (s : St) (x : TV) (K : TV → Option α) : Option α := match t with
 | .data i => match x with
  | .saddr v => match castTo i.ty v with
   | some y => K (.val ⟨i.ty, y⟩)
   | none => none
  | .tad A => bif s.fits i.ty A then K A else none
  | .addr id p => match s.at id p with
   | some (m, v) => match castTo i.ty v with
    | some y => K (view id p m i.ty y)
    | none => none
   | none => none
  | _ => none
 | .fn => match x with
  | .addr id [] => match s.obj id with
   | some (.fbox (some g)) => K (.fn g)
   | some (.fbox none) => K .nilfn
   | _ => none
  | _ => none
def fillHole (s : St) (id : Id) (p : List Step) (K : St → Option α) : Option α := match s.hole with
 | none => K s
 | some (i, q) => bif sameId i id then guardB (sameSteps q p) (K { s with hole := none }) else none
def storeV (t : TK) (s : St) (x y : TV) (K : St → Option α) : Option α := match t with
 | .data i => match x with
  | .addr id p => match s.take i.ty y with
   | some (m, v, s) => match castTo i.ty v with
    | some w => match s.obj id with
     | some o => match o.root with
      | some (om, ov) => match get p om ov with
       | some (_, old) => match castTo i.ty old with
        | some _ => match setMask p om ov.t m with
         | some m' => match o.put m' ⟨ov.t, setVal p ov ⟨i.ty, w⟩⟩ with
          | some o' => bif i.ty.lists then fillHole s id p fun s => K ((s.hushP id p).put id o') else match s.hole with
           | none => K (s.put id o')
           | some _ => none
          | none => none
         | none => none
        | none => none
       | none => none
      | none => none
     | none => none
    | none => none
   | none => none
  | _ => none
 | .fn => match x, y with
  | .addr id [], .fn g => match s.obj id with
   | some (.fbox _) => K (s.put id (.fbox (some g)))
   | _ => none
  | .addr id [], .nilfn => match s.obj id with
   | some (.fbox _) => K (s.put id (.fbox none))
   | _ => none
  | _, _ => none
def strSlice (x : ByteArray) (lo hi : Int) (K : TV → Option α) : Option α :=
 guardB (decide (0 ≤ lo) && decide (lo ≤ hi) && decide (hi ≤ (x.size : Int))) (K (.val ⟨.str, x.extract lo.toNat hi.toNat⟩))
def sliceV (i : TI) (s : St) (x : TV) (lo hi : Option Int) (K : TV → Option α) : Option α := match i.ty with
 | .str => match x with
  | .val v => match castTo .str v with
   | some b => strSlice b (lo.getD 0) (hi.getD (ByteArray.size b)) K
   | none => none
  | _ => none
 | .list e => match x with
  | .val v => match castTo (.list e) v with
   | some xs =>
    guardB (decide (0 ≤ lo.getD 0) && decide (lo.getD 0 ≤ hi.getD (List.length xs)) && decide (hi.getD (List.length xs) ≤ (List.length xs : Int)))
     (K (.val ⟨.list e, match hi with
      | some h => match lo with
       | some l => (List.take h.toNat xs).drop l.toNat
       | none => List.take h.toNat xs
      | none => match lo with
       | some l => List.drop l.toNat xs
       | none => xs⟩))
   | none => none
  | .nil => guardB (decide (lo.getD 0 = 0) && decide (hi.getD 0 = 0)) (K .nil)
  | .ref id p => match s.seen id p with
   | some (.own _, v) => match castTo (.list e) v with
    | some xs =>
     guardB (decide (0 ≤ lo.getD 0) && decide (lo.getD 0 ≤ hi.getD (List.length xs)) && decide (hi.getD (List.length xs) ≤ (List.length xs : Int)))
      (K (.sub id p (lo.getD 0).toNat (hi.getD (List.length xs)).toNat))
    | none => none
   | _ => none
  | .sub id p l h => bif decide (s.tyOf id p = some (.list e)) then
   guardB (decide (0 ≤ lo.getD 0) && decide (lo.getD 0 ≤ hi.getD ((h : Int) - l)) && decide (hi.getD ((h : Int) - l) ≤ (h : Int) - l))
    (K (.sub id p (l + (lo.getD 0).toNat) (l + (hi.getD ((h : Int) - l)).toNat)))
   else none
  | _ => none
 | _ => none
def appendV (t : Ty) (bytes : Nat) (d : Nat) (s0 : St) (x y : TV) (K : St → Option α) : Option α :=
 match s0.take (.list t) x with
 | some (.own m, v, s) => match castTo (.list t) v with
  | some xs => bif t.lists then
   match s.take (.list t) y with
   | some (m', w, s) => match castTo (.list t) w with
    | some ys => bif s.free (d, 0) && (m' == .own m || (m == .shr && m' == .shr)) then guardB (decide ((List.length xs + List.length ys) * bytes ≤ 70368744177664)) (K ((s.new (d, 0) (.vec m t (xs ++ ys))).set d (.ref (d, 0) []))) else none
    | none => none
   | none => none
   else match s0.look (.list t) y with
    | some w => match castTo (.list t) w with
     | some ys => bif s.free (d, 0) then guardB (decide ((List.length xs + List.length ys) * bytes ≤ 70368744177664)) (K ((s.new (d, 0) (.vec m t (xs ++ ys))).set d (.ref (d, 0) []))) else none
     | none => none
    | none => none
  | none => none
 | _ => none
def copyAt (e : Ty) (s : St) (id : Id) (lo : Nat) (hi : Option Nat) (y : TV) (K : Int → St → Option α) : Option α := match s.hole with
 | some _ => none
 | none => match s.obj id with
  | some (.vec m t xs) => match castTo (.list e) ⟨.list t, xs⟩ with
   | some zs => match s.look (.list e) y with
    | some w => match castTo (.list e) w with
     | some ys => guardB (decide (lo ≤ hi.getD (List.length zs)) && decide (hi.getD (List.length zs) ≤ List.length zs))
      (K (min (List.length ys) (hi.getD (List.length zs) - lo) : Nat) (s.put id (.vec m e (List.take lo zs ++ List.take (min (List.length ys) (hi.getD (List.length zs) - lo)) ys ++ List.drop (lo + min (List.length ys) (hi.getD (List.length zs) - lo)) zs))))
     | none => none
    | none => none
   | none => none
  | _ => none
def copyV (e : Ty) (s : St) (x y : TV) (K : Int → St → Option α) : Option α := bif e.lists then none else match x with
 | .ref id [] => copyAt e s id 0 none y K
 | .sub id [] lo hi => copyAt e s id lo (some hi) y K
 | _ => none
def setPart : Nat → Nat → TV → TV → TV
 | 1, _, _, w => w
 | n + 2, 0, .pr _ b, w => .mkpr w b
 | n + 2, j + 1, .pr a b, w => .mkpr a (setPart (n + 1) j b w)
 | n + 2, 0, .val ⟨.prod _ b, x⟩, w => .mkpr w (.val ⟨b, x.2⟩)
 | n + 2, j + 1, .val ⟨.prod a b, x⟩, w => .mkpr (.val ⟨a, x.1⟩) (setPart (n + 1) j (.val ⟨b, x.2⟩) w)
 | _, _, _, _ => .dead
def zeroTV : Ty → TV
 | .list _ => .nil
 | .prod a b => .mkpr (zeroTV a) (zeroTV b)
 | t => .val ⟨t, t.zero⟩
def St.shown (s : St) : TV → Bool
 | .ref id p => match s.seen id p with
  | some (.own _, _) => true
  | _ => false
 | .pr a b => s.shown a && s.shown b
 | _ => true
def buildParts (n : Nat) (t : Ty) (s : St) : List (Nat × Operand) → TV → Option TV
 | [], v => some v
 | (j, o) :: l, v => match compTy n j t with
  | some u => bif s.fits u (s.ev o) && s.shown (s.ev o) then buildParts n t s l (setPart n j v (s.ev o)) else none
  | none => none
def takeAll (t : Ty) : St → List (Nat × Operand) → Option (Option Mask × List t.den × St)
 | s, [] => some (none, [], s)
 | s, (_, o) :: l => match s.take t (s.ev o) with
  | some (m, v, s) => match castTo t v with
   | some x => match takeAll t s l with
    | some (mm, xs, s) => match mm with
     | none => some (some m, x :: xs, s)
     | some m' => bif m == m' then some (some m, x :: xs, s) else none
    | none => none
   | none => none
  | none => none
def inOrder : Nat → List (Nat × Operand) → Bool
 | _, [] => true
 | n, (j, _) :: l => Nat.beq n j && inOrder (n + 1) l
def capsOf (s : St) : List Operand → Option (List Id)
 | [] => some []
 | o :: l => match s.ev o with
  | .addr id [] => match s.obj id with
   | some _ => match capsOf s l with
    | some ids => some (id :: ids)
    | none => none
   | none => none
  | _ => none
def extId (k : Nat) : Id := (1000000 + k, 0)
def placeOf (l : List Id) (id : Id) : Option Nat := go 0 l
where go (n : Nat) : List Id → Option Nat
 | [] => none
 | i :: l => bif sameId i id then some n else go (n + 1) l
def placesOf (l : List Id) : List Id → Option (List Nat)
 | [] => some []
 | i :: is => match placeOf l i with
  | some n => match placesOf l is with
   | some ns => some (n :: ns)
   | none => none
  | none => none
def memId (l : List Id) (id : Id) : Bool := l.any (sameId id)
def nodupIds : List Id → Bool
 | [] => true
 | i :: l => !memId l i && nodupIds l
def addIds (l : List Id) : List Id → List Id
 | [] => l
 | i :: is => bif memId l i then addIds l is else addIds (l ++ [i]) is
def rootsOf : TV → List Id
 | .ref id _ | .sub id _ _ _ => [id]
 | .pr a b => rootsOf a ++ rootsOf b
 | _ => []
def noIdx : List Step → Bool
 | [] => true
 | .fst :: p => noIdx p
 | .snd :: p => noIdx p
 | _ => false
def strOf (L : List Id) (s : St) : Ty → TV → Option AT
 | t, .val v => match castTo t v with
  | some x => some (.val ⟨t, x⟩)
  | none => none
 | .list t, .nil => some (.val ⟨.list t, []⟩)
 | .list t, .ref id p => match placeOf L id with
  | some n => bif noIdx p && decide (s.tyOf id p = some (.list t)) then some (.ref t n p) else none
  | none => none
 | .prod ta tb, .pr a b => match strOf L s ta a with
  | some x => match strOf L s tb b with
   | some y => some (.pr x y)
   | none => none
  | none => none
 | _, _ => none
def wantIds (s : St) (mode : Nat → Nat) : Nat → List TV → List Id → List Id
 | _, [], l => l
 | n, v :: vs, l => wantIds s mode (n + 1) vs (match v with
  | .addr id [] => match s.obj id with
   | some (.fbox _) => addIds l [id]
   | _ => match mode n with
    | 0 => l
    | _ => addIds l [id]
  | .fn g => addIds l g.caps
  | .ref id [] => match mode n with
   | 1 => addIds l [id]
   | _ => l
  | .pr a b => match mode n with
   | 1 => addIds l (rootsOf (.pr a b))
   | _ => l
  | _ => l)
def closeIds (s : St) : Nat → List Id → List Id → List Id
 | 0, l, _ => l
 | _, l, [] => l
 | n + 1, l, id :: todo => match s.obj id with
  | some (.fbox (some g)) => closeIds s n (addIds l g.caps) (todo ++ (addIds l g.caps).drop l.length)
  | _ => closeIds s n l todo
def tyOfArg (tab : Tab) (ts : List TypeId) (n : Nat) : Option Ty := match ts[n]? with
 | some t => match tab.ti t with
  | some i => some i.ty
  | none => none
 | none => none
def takeA (s : St) (want : Ty) : TV → Option (Mask × Val × St)
 | .ref id [] => match s.takeBox (.ref id []) with
  | some r => bif r.2.1.t.isProd then none else some r
  | none => s.take want (.ref id [])
 | A => s.take want A
def takeArgs (tab : Tab) (mode : Nat → Nat) (ts : List TypeId) : Nat → St → List TV → Option (List (Option (Mask × Val)) × St)
 | _, s, [] => some ([], s)
 | n, s, A :: As => match mode n with
  | 2 => match tyOfArg tab ts n with
   | some t => match takeA s t A with
    | some (m, v, s) => match takeArgs tab mode ts (n + 1) s As with
     | some (l, s) => some (some (m, v) :: l, s)
     | none => none
    | none => none
   | none => none
  | _ => match takeArgs tab mode ts (n + 1) s As with
   | some (l, s) => some (none :: l, s)
   | none => none
def argOf (L : List Id) (s : St) (want : Option Ty) (mode : Nat) (A : TV) : Option (Arg × List Id) := match A with
 | .addr id [] => match s.obj id with
  | some (.box _ v) => match mode with
   | 0 => some (.cst v, [id])
   | _ => match placeOf L id with
    | some n => some (.adr n, [])
    | none => none
  | some (.fbox _) => match placeOf L id with
   | some n => some (.adr n, [])
   | none => none
  | _ => none
 | .saddr v => some (.cst v, [])
 | .fn g => match placesOf L g.caps with
  | some ns => some (.fn g.f ns, [])
  | none => none
 | .nilfn => some (.nilfn, [])
 | A => match want with
  | some t => match mode with
   | 1 => match A with
    | .ref id [] => match s.obj id with
     | some (.vec _ _ _) => match placeOf L id with
      | some n => some (.ext n, [])
      | none => none
     | _ => none
    | .pr a b => match strOf L s t (.pr a b) with
     | some T => bif s.fits t (.pr a b) then some (.str T, []) else none
     | none => none
    | _ => none
   | _ => match s.look t A with
    | some v => bif s.fits t A then some (.val v, rootsOf A) else none
    | none => none
  | none => none
def argsOf (tab : Tab) (mode : Nat → Nat) (ts : List TypeId) (L : List Id) (s : St) : Nat → List TV → List (Option (Mask × Val)) → Option (List Arg × List Id)
 | _, [], [] => some ([], [])
 | n, A :: As, some (m, v) :: l => match argsOf tab mode ts L s (n + 1) As l with
  | some (xs, le) => some (.own m v :: xs, le)
  | none => none
 | n, A :: As, none :: l => match argOf L s (tyOfArg tab ts n) (mode n) A with
  | some (x, le) => match argsOf tab mode ts L s (n + 1) As l with
   | some (xs, le') => some (x :: xs, le ++ le')
   | none => none
  | none => none
 | _, _, _ => none
def obOf (s : St) (L : List Id) (id : Id) : Option Ob := match s.obj id with
 | some (.fbox (some g)) => match placesOf L g.caps with
  | some ns => some (.fbox (some ⟨g.f, ns.map extId⟩))
  | none => none
 | o => o
def obsOf (s : St) (L : List Id) : List Id → Option (List Ob)
 | [] => some []
 | id :: l => match obOf s L id with
  | some o => match obsOf s L l with
   | some os => some (o :: os)
   | none => none
  | none => none
def backId (L : List Id) (i : Id) : Option Id := bif sameId i (extId (i.1 - 1000000)) then L[i.1 - 1000000]? else none
def backIds (L : List Id) : List Id → Option (List Id)
 | [] => some []
 | i :: is => match backId L i with
  | some j => match backIds L is with
   | some js => some (j :: js)
   | none => none
  | none => none
def backOb (L : List Id) : Ob → Option Ob
 | .fbox (some g) => match backIds L g.caps with
  | some is => some (.fbox (some ⟨g.f, is⟩))
  | none => none
 | o => some o
def back (L : List Id) : St → List Id → List Ob → Option St
 | s, [], [] => some s
 | s, id :: l, o :: os => match backOb L o with
  | some b => back L ((s.hush id).put id b) l os
  | none => none
 | _, _, _ => none
def sharedIn : Mask → Ty → Bool
 | .own m, .list t => sharedIn m t
 | .prod ma mb, .prod a b => sharedIn ma a || sharedIn mb b
 | _, t => t.lists
def Ob.shares : Ob → Bool
 | .vec m t _ => sharedIn m t
 | .box m v => sharedIn m v.t
 | .fbox _ => false
def freezeTV (id : Id) (v : Val) : TV → TV
 | .ref i p => bif sameId i id then (match p with
  | [] => .val v
  | _ => .dead) else .ref i p
 | .sub i p lo hi => bif sameId i id then .dead else .sub i p lo hi
 | .addr i p => bif sameId i id then .dead else .addr i p
 | .pr a b => bif a.looks false id || b.looks false id then .mkpr (freezeTV id v a) (freezeTV id v b) else .pr a b
 | .tup l => bif TV.looks.looksAny false id l then .dead else .tup l
 | w => bif w.looks false id then .dead else w
def freezeB (id : Id) (om : Mask) (ov : Val) : TV → TV
 | .ref i p => bif sameId i id then (match get p om ov with
  | some (.own _, ⟨.list t, xs⟩) => .val ⟨.list t, xs⟩
  | _ => .dead) else .ref i p
 | .addr i p => .addr i p
 | .pr a b => bif a.sees true id || b.sees true id then .mkpr (freezeB id om ov a) (freezeB id om ov b) else .pr a b
 | A => bif A.sees true id then .dead else A
def St.freeze (s : St) (id : Id) : St := match s.obj id with
 | some (.vec _ t xs) => { s with tmp := fun u => freezeTV id ⟨.list t, xs⟩ (s.tmp u), obj := updI s.obj id none }
 | some (.box m v) => { s with tmp := fun u => freezeB id m v (s.tmp u), obj := updI s.obj id (some (.box .shr v)) }
 | _ => s
def sealTV (id : Id) (v : Val) : TV → TV
 | .addr i [] => bif sameId i id then .saddr v else .addr i []
 | A => bif A.looks false id then .dead else A
def St.sealO (s : St) (id : Id) : St := match s.obj id with
 | some (.box _ v) => bif s.free id then { s with tmp := fun u => sealTV id v (s.tmp u), obj := updI s.obj id none } else s
 | _ => s
def sealIds : List Id → St → St
 | [], s => s
 | id :: l, s => sealIds l (s.sealO id)
def freezeIds : List Id → St → St
 | [], s => s
 | id :: l, s => freezeIds l (s.freeze id)
def bringAll (d : Nat) : List (Mask × Val) → Nat → St → List TV × St
 | [], _, s => ([], s)
 | (m, v) :: l, n, s =>
  let (a, n, s) := bring d m v.t v.x n s
  let (as, s) := bringAll d l n s
  (a :: as, s)
def tupOf : List TV → TV
 | [a] => a
 | l => .tup l
def capTV (s : St) (i : Id) : TV := match s.obj i with
 | some (.vec _ _ _) => .dead
 | _ => .addr i []
def handed (s : St) (mode : Nat → Nat) (As : List TV) : List Id := closeIds s 64 (wantIds s mode 0 As []) (wantIds s mode 0 As [])
def backV (L lent : List Id) (rs : List (Mask × Val)) (os' : List Ob) (dst : Option Nat) (s : St) (K : St → Option α) : Option α :=
 match back L (bif (rs.any fun r => sharedIn r.1 r.2.t) || os'.any Ob.shares then freezeIds lent s else s) L os' with
 | some s => match dst with
  | some d => K ((bringAll d rs 0 s).2.set d (tupOf (bringAll d rs 0 s).1))
  | none => K s
 | none => none
def callT (cx : Cx) (g : FnV) (ts : List TypeId) (args : List TV) (tk : List (Option (Mask × Val))) (dst : Option Nat) (s : St) (K : St → Option α) : Option α :=
 match argsOf cx.tab (cx.mode g.f) ts (handed s (cx.mode g.f) args) s 0 args tk with
 | some (as, lent) => bif nodupIds (handed s (cx.mode g.f) args) && lent.all fun id => !memId (handed s (cx.mode g.f) args) id then
  match obsOf s (handed s (cx.mode g.f) args) (handed s (cx.mode g.f) args) with
  | some os => cx.env.call g.f as os fun r => backV (handed s (cx.mode g.f) args) lent r.1 r.2 dst s K
  | none => none
  else none
 | none => none
def nestId : Id := (1999999, 0)
def hasSaddr : List TV → Bool
 | [] => false
 | .saddr _ :: _ => true
 | .tad _ :: _ => true
 | _ :: l => hasSaddr l
def homeNew (id : Id) : TV → TV
 | .saddr _ => .dead
 | .tad _ => .dead
 | .tup l => bif hasSaddr l || ((TV.tup l).looks false id || (TV.tup l).looks false nestId) then .dead else .tup l
 | B => bif B.looks false id || B.looks false nestId then .dead else B
def isDst (dst : Option Nat) (u : Nat) : Bool := match dst with
 | some d => Nat.beq d u
 | none => false
def only (id : Id) : TV → Bool
 | .val _ => true
 | .nil => true
 | .saddr _ => true
 | .ref i _ => sameId i id
 | .sub i _ _ _ => sameId i id
 | .addr i _ => sameId i id
 | .pr a b => only id a && only id b
 | .tad a => only id a
 | _ => false
def St.aside (s : St) (id : Id) : St := { (s.purge id).drop id with hole := none }
def St.unaside (s s2 : St) (id : Id) (o : Ob) (dst : Option Nat) : St where
 tmp u := bif !isDst dst u && only id (s.tmp u) then s.tmp u else homeNew id (s2.tmp u)
 obj i := bif sameId i id then some o else match s2.obj i with
  | some (.fbox f) => none
  | x => x
 hole := s.hole
def callV (cx : Cx) (g : FnV) (ts : List TypeId) (args : List TV) (dst : Option Nat) (s0 : St) (K : St → Option α) : Option α :=
 match takeArgs cx.tab (cx.mode g.f) ts 0 s0 (args ++ g.caps.map (capTV s0)) with
 | some (tk, s) => match s.hole with
  | none => callT cx g ts (args ++ g.caps.map (capTV s0)) tk dst s K
  | some (id, _) => match s.obj id with
   | some o => match o.root with
    | some _ => callT cx g ts (args ++ g.caps.map (capTV s0)) tk dst (s.aside id) fun s2 => match s2.hole with
     | none => K (s.unaside s2 id o dst)
     | some _ => none
    | none => none
   | none => none
 | none => none
def sameMask : Mask → Mask → Bool
 | .shr, .shr => true
 | .own a, .own b => sameMask a b
 | .prod a b, .prod c d => sameMask a c && sameMask b d
 | _, _ => false
def oneRef : TV → Option (Id × List Step)
 | .ref id p => some (id, p)
 | .pr a b => match a.refs, b.refs with
  | 0, 1 => oneRef b
  | 1, 0 => oneRef a
  | _, _ => none
 | _ => none
def substRef (B : TV) : TV → TV
 | .ref _ _ => B
 | .pr a b => match a.refs with
  | 0 => .pr a (substRef B b)
  | _ => .pr (substRef B a) b
 | A => A
def nested (mode : Nat → Nat) : Nat → List TV → Option (Nat × Id × List Step)
 | _, [] => none
 | n, A :: As => match oneRef A with
  | some (id, x :: p) => match mode n with
   | 1 => some (n, id, x :: p)
   | _ => nested mode (n + 1) As
  | _ => nested mode (n + 1) As
def setNth : Nat → TV → List TV → List TV
 | _, _, [] => []
 | 0, B, A :: As => substRef B A :: As
 | n + 1, B, A :: As => A :: setNth n B As
def stepsUnder : List Step → List Step → Bool
 | [], [] => false
 | [], _ :: _ => true
 | .fst :: p, .fst :: q => stepsUnder p q
 | .snd :: p, .snd :: q => stepsUnder p q
 | .idx _ :: p, .idx _ :: q => stepsUnder p q
 | .arr _ :: p, .arr _ :: q => stepsUnder p q
 | _, _ => false
def within (id : Id) (p : List Step) : TV → Bool
 | .val _ => true
 | .nil => true
 | .ref i q => sameId i id && !stepsUnder p q
 | .sub i q _ _ => sameId i id && !stepsUnder p q
 | .pr a b => within id p a && within id p b
 | _ => false
def homeTV (id : Id) (p : List Step) (old new : TV) : TV := match old with
 | .saddr v => .saddr v
 | .ref i q => bif within id p (.ref i q) then .ref i q else homeNew id new
 | .sub i q l h => bif within id p (.sub i q l h) then .sub i q l h else homeNew id new
 | .pr a b => bif within id p (.pr a b) then .pr a b else homeNew id new
 | .tad A => bif within id p A then .tad A else homeNew id new
 | .addr i q => bif sameId i id && !stepsUnder p q then .addr i q else homeNew id new
 | _ => homeNew id new
def St.home (s s2 : St) (id : Id) (p : List Step) (o : Ob) (dst : Option Nat) : St where
 tmp u := homeTV id p (bif isDst dst u then .dead else s.tmp u) (s2.tmp u)
 obj i := bif sameId i id then some o else bif sameId i nestId then none else match s2.obj i with
  | some (.fbox f) => none
  | x => x
 hole := none
def callN (cx : Cx) (g : FnV) (ts : List TypeId) (args : List TV) (dst : Option Nat) (s : St) (K : St → Option α) : Option α :=
 match nested (cx.mode g.f) 0 args with
 | none => callV cx g ts args dst s K
 | some (n, id, p) => match s.hole with
  | some _ => none
  | none => bif !isDst dst id.1 && !sameId id nestId && args.all fun A => !A.looks false nestId then match s.obj id with
   | some o => match o.root with
    | some (om, ov) => match get p om ov with
     | some (.own m, ⟨.list t, xs⟩) => match setMask p om ov.t (.own m) with
      | some om' => callV cx g ts (setNth n (.ref nestId []) args) dst (((s.purge id).drop id).new nestId (.vec m t xs)) fun s2 => match s2.hole with
       | some _ => none
       | none => match s2.obj nestId with
        | some (.vec m' t' ys) => bif sameMask m m' then match castTo (.list t) ⟨.list t', ys⟩ with
         | some zs => match o.put om' ⟨ov.t, setVal p ov ⟨.list t, zs⟩⟩ with
          | some o' => K (s.home s2 id p o' dst)
          | none => none
         | none => none
         else none
        | _ => none
      | none => none
     | _ => none
    | none => none
   | none => none
   else none
def callM (cx : Cx) (g : FnV) (ts : List TypeId) (args : List TV) (dst : Option Nat) (s : St) (K : St → Option α) : Option α :=
 match cx.env.made g.f with
 | none => callN cx g ts args dst s K
 | some (h, T) => match g.caps, args, dst, cx.tab.find T with
  | [], [A], some d, some (.data i) => match s.take i.ty A with
   | some (m, v, s) => match castTo i.ty v with
    | some y => bif s.free (d, 0) then K ((s.new (d, 0) (.box m ⟨i.ty, y⟩)).set d (.fn ⟨h, [(d, 0)]⟩)) else none
    | none => none
   | none => none
  | _, _, _, _ => none
def indexV (i : TI) (n : Int) (v : Val) (K : Val → Option α) : Option α := match i.ty with
 | .str => match castTo .str v with
  | some b => guardB (decide (0 ≤ n) && decide (n < (ByteArray.size b : Int))) (K ⟨.int .u8, ((List.getD (ByteArray.data b).toList n.toNat 0).toNat : Int)⟩)
  | none => none
 | .prod e f => bif i.isArr then match castTo (.prod e f) v with
  | some y => guardB (decide (0 ≤ n) && decide (n < 2)) (match arrGet n.toNat ⟨.prod e f, y⟩ with
   | some w => K w
   | none => none)
  | none => none
  else none
 | _ => none
def convV (i : TI) (v : Val) (K : Val → Option α) : Option α := match i.ty, v with
 | .int k, ⟨.int _, n⟩ => K ⟨.int k, k.wrap n⟩
 | .str, ⟨.str, b⟩ => K ⟨.str, b⟩
 | _, _ => none
def boundOf (s : St) : Option Operand → Option (Option Int)
 | none => some none
 | some o => match intOf (s.ev o) with
  | some i => some (some i)
  | none => none
def ints (l : List TV) : Option (List (IntKind × Int)) := l.mapM fun v => match v with
 | .val ⟨.int k, i⟩ => some (k, i)
 | _ => none
def exec (cx : Cx) (o : Oper) (s : St) (K : St → Option α) : Option α :=
 let put (v : TV) : Option α := K (s.setD o.dst v)
 let putV (v : Val) : Option α := K (s.setD o.dst (.val v))
 match o.op with
 | .move x => put (s.ev x)
 | .assign x => match o.dst with
  | some d => bif cx.keep d then put (s.ev x) else K (s.assign d (s.ev x))
  | none => none
 | .pick c a b => match s.ev c with
  | .val ⟨.bool, c⟩ => match s.ev a, s.ev b with
   | .val v, .val w => match castTo v.t w with
    | some y => putV ⟨v.t, bif c then v.x else y⟩
    | none => none
   | a, b => match c with
    | true => put a
    | false => put b
  | _ => none
 | .alloc t => match o.dst, cx.tab.find t with
  | some d, some (.data i) => bif s.free (d, 0) then K ((s.new (d, 0) (.box i.ty.full ⟨i.ty, i.ty.zero⟩)).set d (.addr (d, 0) [])) else none
  | some d, some .fn => bif s.free (d, 0) then K ((s.new (d, 0) (.fbox none)).set d (.addr (d, 0) [])) else none
  | _, _ => none
 | .box t x => match o.dst, cx.tab.find t with
  | some d, some (.data i) => bif cx.keep d then (bif s.fits i.ty (s.ev x) && s.shown (s.ev x) then K (s.set d (.tad (s.ev x))) else none) else match s.take i.ty (s.ev x) with
   | some (m, v, s) => match castTo i.ty v with
    | some y => bif s.free (d, 0) then K ((s.new (d, 0) (.box m ⟨i.ty, y⟩)).set d (.addr (d, 0) [])) else none
    | none => none
   | none => none
  | some d, some .fn => match s.ev x with
   | .fn g => bif s.free (d, 0) && !g.caps.any (sameId (d, 0)) then K ((s.new (d, 0) (.fbox (some g))).set d (.addr (d, 0) [])) else none
   | _ => none
  | _, _ => none
 | .build t parts => match cx.tab.ti t with
  | some i => bif i.ty.isProd then match buildParts i.arity i.ty s parts.toList (zeroTV i.ty) with
   | some v => put v
   | none => none
   else none
  | none => none
 | .buildSlice t n parts => match o.dst, cx.tab.ti t with
  | some d, some i => match i.ty with
   | .list e => guardB (Nat.beq n parts.toList.length && inOrder 0 parts.toList && decide (n * e.size ≤ 16777216)) (match takeAll e s parts.toList with
    | some (mm, xs, s) => bif s.free (d, 0) then K ((s.new (d, 0) (.vec (mm.getD (bif cx.keep d then .shr else e.full)) e xs)).set d (.ref (d, 0) [])) else none
    | none => none)
   | _ => none
  | _, _ => none
 | .load t a => match cx.tab.find t, s.hole with
  | some k, none => loadV k s (s.ev a) put
  | _, _ => none
 | .store t a x => match o.dst, cx.tab.find t with
  | none, some k => storeV k s (s.ev a) (s.ev x) K
  | _, _ => none
 | .nilCheck x => match s.ev x with
  | .addr id p => put (.addr id p)
  | .saddr v => put (.saddr v)
  | .tad A => put (.tad A)
  | .fn g => put (.fn g)
  | _ => none
 | .binOp op t x y _ => binV cx.tab t op (s.ev x) (s.ev y) putV
 | .unOp op _ x => unV op (s.ev x) putV
 | .convert src dst x => match cx.tab.ti src with
  | some _ => match cx.tab.ti dst, s.ev x with
   | some i, .val v => convV i v putV
   | _, _ => none
  | none => none
 | .makeFunc (.func f) first caps => guardB first.toList.isEmpty (match capsOf s caps.toList with
  | some ids => put (.fn ⟨f, ids⟩)
  | none => none)
 | .makeSlice t l c => match o.dst, cx.tab.ti t with
  | some d, some i => match i.ty, s.ev l, s.ev c with
   | .list e, .val ⟨.int _, n⟩, .val ⟨.int _, m⟩ =>
    guardB (decide (0 ≤ n) && decide (n ≤ m) && decide (m * i.bytes ≤ 140737488355328)) (bif s.free (d, 0) then K ((s.new (d, 0) (.vec e.full e (List.replicate n.toNat e.zero))).set d (.ref (d, 0) [])) else none)
   | _, _, _ => none
  | _, _ => none
 | .slice t x lo hi none => match cx.tab.ti t with
  | some i => match boundOf s lo, boundOf s hi with
   | some l, some h => sliceV i s (s.ev x) l h put
   | _, _ => none
  | none => none
 | .fieldAddr t x j => match cx.tab.ti t, s.ev x with
  | some i, .addr id p => bif noArr p && (!i.isArr && i.ty.isProd && decide (j < i.arity)) && decide (s.tyOf id p = some i.ty) then put (.addr id (p ++ fieldSteps i.arity j)) else none
  | some i, .saddr v => bif (!i.isArr && i.ty.isProd && decide (j < i.arity)) && decide (v.t = i.ty) then match valComp i.arity j v with
   | some w => put (.saddr w)
   | none => none
   else none
  | some i, .tad A => bif (!i.isArr && i.ty.isProd && decide (j < i.arity)) && s.fits i.ty A then put (.tad (comp i.arity j A)) else none
  | _, _ => none
 | .field t x j => match cx.tab.ti t with
  | some i => bif (!i.isArr && i.ty.isProd && decide (j < i.arity)) && s.fits i.ty (s.ev x) then put (comp i.arity j (s.ev x)) else none
  | none => none
 | .indexAddr t x j => match cx.tab.ti t, intOf (s.ev j) with
  | some i, some n => indexAddrV i s (s.ev x) n put
  | _, _ => none
 | .index t x j => match cx.tab.ti t, intOf (s.ev j), s.ev x with
  | some i, some n, .val v => indexV i n v putV
  | _, _, _ => none
 | .extract x j => match s.ev x with
  | .tup l => match l[j]? with
   | some (.tup _) => none
   | some v => put v
   | none => none
  | _ => none
 | .call c => match c.callee with
  | .builtin .len => match c.args.toList, c.argTypes.toList with
   | [x], [t] => match cx.tab.ti t with
    | some i => match i.ty with
     | .str => match s.ev x with
      | .val ⟨.str, b⟩ => putV ⟨.int .i64, (ByteArray.size b : Int)⟩
      | _ => none
     | .list _ => match lenV s (s.ev x) with
      | some n => putV ⟨.int .i64, (n : Int)⟩
      | none => none
     | _ => none
    | none => none
   | _, _ => none
  | .builtin .append => match o.dst, c.args.toList, c.argTypes.toList with
   | some d, [x, y], [t, t'] => bif Nat.beq t t' then match cx.tab.ti t with
    | some i => match i.ty with
     | .list e => appendV e i.bytes d s (s.ev x) (s.ev y) K
     | _ => none
    | none => none
    else none
   | _, _, _ => none
  | .builtin .copy => match c.args.toList, c.argTypes.toList with
   | [x, y], [t, t'] => bif Nat.beq t t' then match cx.tab.ti t with
    | some i => match i.ty with
     | .list e => copyV e s (s.ev x) (s.ev y) fun n s => K (s.setD o.dst (.val ⟨.int .i64, n⟩))
     | _ => none
    | none => none
    else none
   | _, _ => none
  | .builtin .max => match ints (c.args.toList.map s.ev) with
   | some ((k, x) :: l) => putV ⟨.int k, l.foldl (fun m y => bif decide (m < y.2) then y.2 else m) x⟩
   | _ => none
  | .builtin .min => match ints (c.args.toList.map s.ev) with
   | some ((k, x) :: l) => putV ⟨.int k, l.foldl (fun m y => bif decide (y.2 < m) then y.2 else m) x⟩
   | _ => none
  | .value f => match s.ev f with
   | .fn g => callM cx g c.argTypes.toList (c.args.toList.map s.ev) o.dst s K
   | _ => none
  | _ => none
 | _ => none
def floats (s : St) (o : Oper) : Bool := match o.op with
 | .move _ | .assign _ | .pick .. | .build .. | .nilCheck _ | .binOp .. | .unOp .. | .convert .. | .makeFunc .. | .slice .. | .fieldAddr .. | .field .. | .indexAddr .. | .index .. | .extract .. => true
 | .load _ x => match s.ev x with
  | .saddr _ => true
  | _ => false
 | .call c => match c.callee with
  | .builtin .len | .builtin .max | .builtin .min => true
  | _ => false
 | _ => false
def stillKind (o : Oper) : Bool := match o.op with
 | .move _ | .assign _ | .pick .. | .build .. | .nilCheck _ | .binOp .. | .unOp .. | .convert .. | .makeFunc .. | .slice .. | .fieldAddr .. | .field .. | .indexAddr .. | .index .. | .extract .. | .load .. => true
 | .call c => match c.callee with
  | .builtin .len | .builtin .max | .builtin .min => true
  | _ => false
 | _ => false
def guardedBy (E : St → (St → Option α) → Option α) (ops : Array Oper) (o : Oper) (s : St) (K : St → Option α) : Option α := match o.guard with
 | none => E s K
 | some (g, want) => match ops[g]? with
  | some og => match og.dst with
   | some t => match s.tmp t with
    | .val ⟨.bool, b⟩ =>
     match b, want with
     | true, true => E (s.set t (.val ⟨.bool, true⟩)) K
     | true, false => K ((s.set t (.val ⟨.bool, true⟩)).setD o.dst (.tup []))
     | false, true => K ((s.set t (.val ⟨.bool, false⟩)).setD o.dst (.tup []))
     | false, false => E (s.set t (.val ⟨.bool, false⟩)) K
    | .tup [] => K (s.setD o.dst (.tup []))
    | _ => none
   | none => none
  | none => none
def runOps (cx : Cx) (ops : Array Oper) : List Oper → St → (St → Option α) → Option α
 | [], s, K => K s
 | o :: os, s, K => guardedBy (exec cx o) ops o s fun s => runOps cx ops os s K
inductive Fl where
 | flo | qui | sole
def execF (cx : Cx) (o : Oper) (f : Fl) (s : St) (K : St → Option α) : Option α := match f with
 | .flo => bif floats s o then exec cx o s K else none
 | _ => exec cx o s K
def runDrawn (cx : Cx) (ops : Array Oper) : List (Nat × Fl) → St → (St → Option α) → Option α
 | [], s, K => K s
 | (i, f) :: l, s, K => match ops[i]? with
  | some o => guardedBy (execF cx o f) ops o s fun s => runDrawn cx ops l s K
  | none => none
inductive PT where
 | val (t : Ty) | nil | ref (id : Id) (p : List Step) | pr (a b : PT)
 | rix (id : Id) (p q : List Step)     -- a list in an element
 | sub (id : Id) (p : List Step)       -- a part of a list
@[reducible] def PT.P : PT → Type
 | .val t => t.den
 | .pr a b => a.P × b.P
 | .rix _ _ _ => Nat
 | .sub _ _ => Nat × Nat
 | _ => Unit
def PT.V : (T : PT) → T.P → TV
 | .val t, x => .val ⟨t, x⟩
 | .nil, _ => .nil
 | .ref i p, _ => .ref i p
 | .pr a b, x => .pr (a.V x.1) (b.V x.2)
 | .rix i p q, n => .ref i (p ++ .idx n :: q)
 | .sub i p, x => .sub i p x.1 x.2
def idxAt : List Step → List Step → List Step → Option Nat
 | [], q, .idx n :: r => bif sameSteps r q then some n else none
 | .fst :: p, q, .fst :: r => idxAt p q r
 | .snd :: p, q, .snd :: r => idxAt p q r
 | _, _, _ => none
def PT.E : (T : PT) → TV → Option T.P
 | .val t, v => match v with
  | .val v => castTo t v
  | _ => none
 | .nil, v => match v with
  | .nil => some ()
  | _ => none
 | .ref i p, v => match v with
  | .ref j q => bif sameId j i && sameSteps q p then some () else none
  | _ => none
 | .pr a b, v => match v with
  | .pr x y => match a.E x with
   | some p => match b.E y with
    | some q => some (p, q)
    | none => none
   | none => none
  | _ => none
 | .rix i p q, v => match v with
  | .ref j r => bif sameId j i then idxAt p q r else none
  | _ => none
 | .sub i p, v => match v with
  | .sub j q lo hi => bif sameId j i && sameSteps q p then some (lo, hi) else none
  | _ => none
inductive Sh where
 | str (T : PT)
 | val (t : Ty)
 | own (m : Mask) (t : Ty)     -- a list of its own, named by the tmp
 | ptr (id : Id)               -- a box's address
 | cst (t : Ty)                -- the address of what nobody writes
 | adp (id : Id) (p : List Step)    -- a place's address
 | adi (id : Id) (q : List Step)    -- the address of a place in an element
 | same (id : Id) (p : List Step)   -- looks at a list
 | fn (g : FnV)
inductive OSh where
 | box (m : Mask) (t : Ty)
 | vec (m : Mask) (t : Ty)
 | fbox (g : Option FnV)
structure Tpl where
 tm : List (Nat × Sh)
 ob : List (Id × OSh)
 fr : List Id := []            -- what is shared from here on
@[reducible] def tmP : List (Nat × Sh) → Type
 | [] => Unit
 | (_, .str T) :: l => T.P × tmP l
 | (_, .val t) :: l => t.den × tmP l
 | (_, .own _ t) :: l => List t.den × tmP l
 | (_, .cst t) :: l => t.den × tmP l
 | (_, .adi _ _) :: l => Nat × tmP l
 | _ :: l => tmP l
@[reducible] def obP : List (Id × OSh) → Type
 | [] => Unit
 | (_, .box _ t) :: l => t.den × obP l
 | (_, .vec _ t) :: l => List t.den × obP l
 | _ :: l => obP l
@[reducible] def Tpl.P (J : Tpl) : Type := tmP J.tm × obP J.ob
def St.empty : St := ⟨fun _ => .dead, fun _ => none, none⟩
def tmS : (l : List (Nat × Sh)) → tmP l → St → St
 | [], _, s => s
 | (n, .str T) :: l, p, s => tmS l p.2 (s.set n (T.V p.1))
 | (n, .val t) :: l, p, s => tmS l p.2 (s.set n (.val ⟨t, p.1⟩))
 | (n, .own m t) :: l, p, s => tmS l p.2 ((s.set n (.ref (n, 0) [])).put (n, 0) (.vec m t p.1))
 | (n, .ptr id) :: l, p, s => tmS l p (s.set n (.addr id []))
 | (n, .cst t) :: l, p, s => tmS l p.2 (s.set n (.saddr ⟨t, p.1⟩))
 | (n, .adp id q) :: l, p, s => tmS l p (s.set n (.addr id q))
 | (n, .adi id q) :: l, p, s => tmS l p.2 (s.set n (.addr id (.idx p.1 :: q)))
 | (n, .same id q) :: l, p, s => tmS l p (s.set n (.ref id q))
 | (n, .fn g) :: l, p, s => tmS l p (s.set n (.fn g))
def obS : (l : List (Id × OSh)) → obP l → St → St
 | [], _, s => s
 | (id, .box m t) :: l, p, s => obS l p.2 (s.put id (.box m ⟨t, p.1⟩))
 | (id, .vec m t) :: l, p, s => obS l p.2 (s.put id (.vec m t p.1))
 | (id, .fbox g) :: l, p, s => obS l p (s.put id (.fbox g))
def Tpl.S (J : Tpl) (p : J.P) : St := tmS J.tm p.1 (obS J.ob p.2 St.empty)
def sameIds : List Id → List Id → Bool
 | [], [] => true
 | a :: l, b :: k => sameId a b && sameIds l k
 | _, _ => false
def sameFn (g h : FnV) : Bool := Nat.beq g.f h.f && sameIds g.caps h.caps
def ownIds : List (Nat × Sh) → List Id
 | [] => []
 | (n, .own _ _) :: l => (n, 0) :: ownIds l
 | _ :: l => ownIds l
def isNil : TV → Bool
 | .nil => true
 | _ => false
def tmE (s : St) (own : List Id) : (l : List (Nat × Sh)) → Option (tmP l)
 | [] => some ()
 | (n, .str T) :: l => match T.E (s.tmp n) with
  | some x => bif (rootsOf (s.tmp n)).all fun id => !(memId own id && isNil (s.tmp id.1)) then match tmE s own l with
   | some p => some (x, p)
   | none => none
   else none
  | none => none
 | (n, .val t) :: l => bif (rootsOf (s.tmp n)).isEmpty then match s.look t (s.tmp n) with
  | some v => match castTo t v with
   | some x => match tmE s own l with
    | some p => some (x, p)
    | none => none
   | none => none
  | none => none
  else none
 | (n, .own m t) :: l => match s.tmp n with
  | .nil => match tmE s own l with
   | some p => some ([], p)
   | none => none
  | .ref id [] => match s.obj id with
   | some (.vec m' t' xs) => bif sameId id (n, 0) && m'.covers m then match castTo (.list t) ⟨.list t', xs⟩ with
    | some ys => match tmE s own l with
     | some p => some (ys, p)
     | none => none
    | none => none
    else none
   | _ => none
  | _ => none
 | (n, .ptr id) :: l => match s.tmp n with
  | .addr i [] => bif sameId i id then tmE s own l else none
  | _ => none
 | (n, .same id q) :: l => match s.tmp n with
  | .ref i r => bif sameId i id && sameSteps q r && !isNil (s.tmp id.1) then tmE s own l else none
  | .nil => match q with
   | [] => bif memId own id && isNil (s.tmp id.1) then tmE s own l else none
   | _ => none
  | _ => none
 | (n, .adp id q) :: l => match s.tmp n with
  | .addr i r => bif sameId i id && sameSteps q r then tmE s own l else none
  | _ => none
 | (n, .adi id q) :: l => match s.tmp n with
  | .addr i (.idx k :: r) => bif sameId i id && sameSteps q r then match tmE s own l with
   | some p => some (k, p)
   | none => none
   else none
  | _ => none
 | (n, .cst t) :: l => match s.tmp n with
  | .saddr v => match castTo t v with
   | some x => match tmE s own l with
    | some p => some (x, p)
    | none => none
   | none => none
  | _ => none
 | (n, .fn g) :: l => match s.tmp n with
  | .fn h => bif sameFn g h then tmE s own l else none
  | _ => none
def obE (s : St) : (l : List (Id × OSh)) → Option (obP l)
 | [] => some ()
 | (id, .box m t) :: l => match s.obj id with
  | some (.box m' v) => bif m'.covers m then match castTo t v with
   | some x => match obE s l with
    | some p => some (x, p)
    | none => none
   | none => none
   else none
  | _ => none
 | (id, .vec m t) :: l => match s.obj id with
  | some (.vec m' t' xs) => bif m'.covers m then match castTo (.list t) ⟨.list t', xs⟩ with
   | some ys => match obE s l with
    | some p => some (ys, p)
    | none => none
   | none => none
   else none
  | _ => none
 | (id, .fbox g) :: l => match s.obj id with
  | some (.fbox h) => match g, h with
   | some g, some h => bif sameFn g h then obE s l else none
   | none, none => obE s l
   | _, _ => none
  | _ => none
def Tpl.E (J : Tpl) (s : St) : Option J.P := match s.hole with
 | some _ => none
 | none => match tmE (freezeIds J.fr s) (ownIds J.tm) J.tm with
  | some p => match obE (freezeIds J.fr s) J.ob with
   | some q => some (p, q)
   | none => none
  | none => none
def nodupNat : List Nat → Bool
 | [] => true
 | n :: l => !l.any (Nat.beq n) && nodupNat l
def Sh.ids : Sh → List Id
 | .ptr id | .adp id _ | .adi id _ => [id]
 | .fn g => g.caps
 | _ => []
def OSh.ids : OSh → List Id
 | .fbox (some g) => g.caps
 | _ => []
def disj (l k : List Id) : Bool := l.all fun i => !memId k i
def Tpl.ok (J : Tpl) : Bool :=
 nodupNat (J.tm.map (·.1)) && nodupIds (ownIds J.tm ++ J.ob.map (·.1)) && (J.tm.all fun x => disj x.2.ids (ownIds J.tm) && Nat.blt x.1 1000000) && (J.ob.all fun x => disj x.2.ids (ownIds J.tm))
inductive Out where
 | one (e : Ex) (J : Tpl)
 | or (e : Ex) (J : Tpl) (o : Out)
@[reducible] def Out.P : Out → Type
 | .one _ J => J.P
 | .or _ J o => J.P ⊕ o.P
def Out.E : (o : Out) → Ex → St → Option o.P
 | .one e J, e', s => match decEq e' e with
  | isTrue _ => J.E s
  | isFalse _ => none
 | .or e J o, e', s => match decEq e' e with
  | isTrue _ => match J.E s with
   | some p => some (.inl p)
   | none => none
  | isFalse _ => match o.E e' s with
   | some p => some (.inr p)
   | none => none
def Out.go : (o : Out) → o.P → (Ex → St → Option α) → Option α
 | .one e J, p, K => K e (J.S p)
 | .or e J o, p, K => Sum.elim (fun p => K e (J.S p)) (fun p => o.go p K) p
def joinO {A : Type} (x : Option (A ⊕ α)) (f : A → Option α) : Option α := match x with
 | some (.inl p) => f p
 | some (.inr r) => some r
 | none => none
def iter {P Q : Type} (B : P → Option (P ⊕ Q)) : Nat → P → Option Q
 | 0, _ => none
 | n + 1, p => match B p with
  | some (.inl p') => iter B n p'
  | some (.inr q) => some q
  | none => none
open Classical in
@[irreducible] noncomputable def loopO {P Q : Type} (B : P → Option (P ⊕ Q)) (p : P) : Option Q :=
 if h : ∃ q n, iter B n p = some q then some (Classical.choose h) else none
inductive DT (out : Tpl) where
 | fin
 | node (J : Tpl) (D : J.P → Option out.P) (b : DT out)
 | br (l : List (Nat × Fl)) (t rest : DT out)
 | nobr
inductive Ann where
 | nil
 | seq (a b : Ann)
 | cut (J : Tpl) (a b : Ann)     -- of a sequence: between both
 | loop (P : Tpl) (Q : Out) (B : P.P → Option (P.P ⊕ Q.P)) (a : Ann)
 | draw (l : List (Nat × Fl))
 | draws (l : List (Nat × Fl)) (out : Tpl) (t : DT out)
def freezeHere (l : List Id) (s : St) : St := match s.hole with
 | none => freezeIds l s
 | some _ => s
def leave (cx : Cx) (s : St) : St := sealIds cx.seals (freezeHere cx.frz s)
def endT (cx : Cx) {out : Tpl} : DT out → St → Option out.P
 | .fin, s => out.E (leave cx s)
 | .node J D _, s => match J.E s with
  | some p => D p
  | none => none
 | _, _ => none
def leaf (P : Tpl) (Q : Out) : Ex → St → Option (P.P ⊕ Q.P) := fun e s => match e with
 | .nrm => match P.E s with
  | some p => some (.inl p)
  | none => none
 | e => match Q.E e s with
  | some q => some (.inr q)
  | none => none
noncomputable def run (cx : Cx) : Code → Ann → St → {α : Type} → (Ex → St → Option α) → Option α
 | .skip, _, s, _, K => K .nrm s
 | .region _ ops d, an, s, _, K => bif d then match an with
  | .draw l => runDrawn cx ops l s fun s => K .nrm (leave cx s)
  | .draws l out t => runDrawn cx ops l s fun s => match endT cx t s with
   | some q => K .nrm (out.S q)
   | none => none
  | _ => none
  else runOps cx ops ops.toList s fun s => K .nrm (leave cx s)
 | .seq a b, an, s, α, K => match an with
  | .seq aa ab => run cx a aa s fun e s => match e with
   | .nrm => run cx b ab s K
   | e => K e s
  | .cut J aa ab => joinO (run cx a aa s (α := J.P ⊕ α) (fun e s => match e with
   | .nrm => match J.E s with
    | some p => some (.inl p)
    | none => none
   | e => match K e s with
    | some r => some (.inr r)
    | none => none)) fun p => run cx b ab (J.S p) K
  | _ => run cx a .nil s fun e s => match e with
   | .nrm => run cx b .nil s K
   | e => K e s
 | .cond c a b, an, s, _, K => match s.ev c with
  | .val ⟨.bool, c⟩ => match an with
   | .seq aa ab => bif c then run cx a aa s K else run cx b ab s K
   | _ => bif c then run cx a .nil s K else run cx b .nil s K
  | _ => none
 | .block id c, an, s, _, K => run cx c an s fun e s => match e with
  | .ex i => bif Nat.beq i id then K .nrm s else K (.ex i) s
  | e => K e s
 | .loop c, an, s, _, K => match an with
  | .loop P Q B _ => match P.E s with
   | some p => match loopO B p with
    | some q => Q.go q K
    | none => none
   | none => none
  | _ => none
 | .exit id, _, s, _, K => K (.ex id) s
 | .ret, _, s, _, K => K .ret s
 | _, _, _, _, _ => none
end Go.Ve
namespace Go.Ve
open Go Go.RowKit
abbrev RId := Option Id
structure Gh where
 hdr : RId → List Step → Value
 base : Id → Addr
 own : Nat → Option (RId × Option (List Step))
def cellsAt (w : World) (a : Addr) (cs : List Value) : Prop := ∀ j, (h : j < cs.length) → w.cell? (a.add j) = some cs[j]
def SRep (g : Gh) (w : World) : (t : Ty) → t.den → List Value → Prop
 | .int k, n, cs => cs = [.int k n]
 | .bool, b, cs => cs = [.bool b]
 | .str, s, cs => cs = [.string s]
 | .list t, xs, cs => (cs = [.slice none 0 0] ∧ xs = []) ∨
  ∃ a cap, cs = [.slice (some a) (List.length xs) cap] ∧ (0 < List.length xs → a.spot = none) ∧ List.length xs ≤ cap ∧ ∀ i, (h : i < List.length xs) → g.own a.block = none ∧ a.block < w.heap.size ∧
   ∃ ds, cellsAt w (a.add (i * t.size)) ds ∧ SRep g w t xs[i] ds
 | .prod a b, x, cs => ∃ c d, cs = c ++ d ∧ SRep g w a x.1 c ∧ SRep g w b x.2 d
 | .unit, _, cs => cs = []
structure Le (g : Gh) (w : World) (g' : Gh) (w' : World) : Prop where
 os : w'.os = w.os
 tape : w'.tape = w.tape
 output : w'.output = w.output
 size : w.heap.size ≤ w'.heap.size
 keep : ∀ b, b < w.heap.size → g.own b = none → w'.heap[b]? = w.heap[b]? ∧ g'.own b = none
 hid : ∀ b, b < w.heap.size → g.own b = some (none, none) → w'.heap[b]? = w.heap[b]? ∧ g'.own b = some (none, none)
theorem Le.refl (g : Gh) (w : World) : Le g w g w := ⟨rfl, rfl, rfl, Nat.le_refl _, fun _ _ h => ⟨rfl, h⟩, fun _ _ h => ⟨rfl, h⟩⟩
theorem Le.trans {g1 g2 g3 : Gh} {w1 w2 w3 : World} (h : Le g1 w1 g2 w2) (k : Le g2 w2 g3 w3) : Le g1 w1 g3 w3 :=
 ⟨k.os.trans h.os, k.tape.trans h.tape, k.output.trans h.output, Nat.le_trans h.size k.size, fun b hb ho =>
  let ⟨e1, o1⟩ := h.keep b hb ho
  let ⟨e2, o2⟩ := k.keep b (Nat.lt_of_lt_of_le hb h.size) o1
  ⟨e2.trans e1, o2⟩, fun b hb ho =>
  let ⟨e1, o1⟩ := h.hid b hb ho
  let ⟨e2, o2⟩ := k.hid b (Nat.lt_of_lt_of_le hb h.size) o1
  ⟨e2.trans e1, o2⟩⟩
theorem cellsAt_of {w w' : World} {a : Addr} {cs : List Value} (h : w'.heap[a.block]? = w.heap[a.block]?) (hc : cellsAt w a cs) : cellsAt w' a cs := by
 intro j hj
 have : (a.add j).block = a.block := by unfold Addr.add; split <;> rfl
 rw [World.cell?_of_block (w := w) (by rw [this]; exact h)]
 exact hc j hj
theorem add_block (a : Addr) (n : Nat) : (a.add n).block = a.block := by unfold Addr.add; split <;> rfl
theorem add_spot {a : Addr} (h : a.spot = none) (n : Nat) : (a.add n).spot = none := by unfold Addr.add; split <;> simp [h]
theorem add_off (a : Addr) (n : Nat) : (a.add n).off = a.off + n := by unfold Addr.add; split <;> simp_all
theorem add_eq {a : Addr} (h : a.spot = none) (n : Nat) : a.add n = ⟨a.block, a.off + n, none⟩ := by
 cases a; simp at h; subst h; unfold Addr.add; split <;> simp_all
theorem add_add {a : Addr} (h : a.spot = none) (n m : Nat) : (a.add n).add m = a.add (n + m) := by
 rw [add_eq h, add_eq h, add_eq (by rfl)]; simp [Nat.add_assoc]
theorem add_zero {a : Addr} : a.add 0 = a := by simp [Addr.add]
theorem SRep.le {g g' : Gh} {w w' : World} (hl : Le g w g' w') : ∀ (t : Ty) (x : t.den) (cs : List Value), SRep g w t x cs → SRep g' w' t x cs
 | .int _, _, _, h => h
 | .bool, _, _, h => h
 | .str, _, _, h => h
 | .unit, _, _, h => h
 | .prod a b, x, cs, ⟨c, d, e, h1, h2⟩ => ⟨c, d, e, SRep.le hl a x.1 c h1, SRep.le hl b x.2 d h2⟩
 | .list t, xs, cs, h => by
  rcases h with h | ⟨a, cap, e, hs, hc, h⟩
  · exact .inl h
  · refine .inr ⟨a, cap, e, hs, hc, fun i hi => ?_⟩
    obtain ⟨ho, hb, ds, h1, h2⟩ := h i hi
    obtain ⟨e1, o1⟩ := hl.keep _ hb ho
    exact ⟨o1, Nat.lt_of_lt_of_le hb hl.size, ds, cellsAt_of (by rw [add_block]; exact e1) h1, SRep.le hl t _ ds h2⟩
theorem SRep.len {g : Gh} {w : World} : ∀ (t : Ty) (x : t.den) (cs : List Value), SRep g w t x cs → cs.length = t.size
 | .int _, _, _, h => by simp only [SRep] at h; subst h; rfl
 | .bool, _, _, h => by simp only [SRep] at h; subst h; rfl
 | .str, _, _, h => by simp only [SRep] at h; subst h; rfl
 | .unit, _, _, h => by simp only [SRep] at h; subst h; rfl
 | .prod a b, x, cs, ⟨c, d, e, h1, h2⟩ => by rw [e, List.length_append, SRep.len a _ _ h1, SRep.len b _ _ h2]; rfl
 | .list t, xs, cs, h => by
  rcases h with ⟨h, _⟩ | ⟨a, cap, h, _⟩ <;> subst h <;> rfl
def LRep (g : Gh) (w : World) (id : RId) (p : List Step) (n : Nat) (size : Nat) (E : Nat → List Value → Prop) : Prop :=
 (g.hdr id p = .slice none 0 0 ∧ n = 0) ∨
  ∃ a cap c e, g.hdr id p = .slice (some a) n cap ∧ a.spot = none ∧ g.own a.block = some (id, some p) ∧ w.heap[a.block]? = some (.cells c e (0, 0)) ∧ n ≤ cap ∧ cap ≤ maxLen ∧ a.off + cap * size ≤ c.size ∧
   ∀ i, i < n → ∃ ds, cellsAt w (a.add (i * size)) ds ∧ E i ds
def ORep (g : Gh) (w : World) (hl : Option (RId × List Step)) (id : RId) : (t : Ty) → Mask → List Step → t.den → List Value → Prop
 | .list t, .own m, p, xs, cs => (hl = some (id, p) ∧ cs.length = 1) ∨ (hl ≠ some (id, p) ∧ cs = [g.hdr id p] ∧
  LRep g w id p (List.length xs) t.size (fun i ds => ∃ h : i < List.length xs, ORep g w hl id t m (p ++ [.idx i]) xs[i] ds))
 | .prod a b, .prod ma mb, p, x, cs => ∃ c d, cs = c ++ d ∧ ORep g w hl id a ma (p ++ [.fst]) x.1 c ∧ ORep g w hl id b mb (p ++ [.snd]) x.2 d
 | t, _, _, x, cs => SRep g w t x cs
def RootRep (g : Gh) (w : World) (hl : Option (RId × List Step)) (id : Id) : Ob → Prop
 | .vec m t xs => LRep g w (some id) [] (List.length xs) t.size (fun i ds => ∃ h : i < List.length xs, ORep g w hl (some id) t m [.idx i] xs[i] ds)
 | .box m v => ∃ cs c e, (g.base id).spot = none ∧ g.own (g.base id).block = some (some id, none) ∧ w.heap[(g.base id).block]? = some (.cells c e (0, 0)) ∧
  cellsAt w (g.base id) cs ∧ ORep g w hl (some id) v.t m [] v.x cs
 | .fbox f => (g.base id).spot = none ∧ g.own (g.base id).block = some (some id, none) ∧ (∃ c e, w.heap[(g.base id).block]? = some (.cells c e (0, 0))) ∧
  w.cell? (g.base id) = some (match f with
   | some f => .func (.func f.f) #[] ((f.caps.map fun i => Value.pointer (some (g.base i))).toArray)
   | none => .nilFunc)
structure Same (g : Gh) (w : World) (g' : Gh) (w' : World) (id : RId) : Prop where
 hdr : ∀ p, g'.hdr id p = g.hdr id p
 base : ∀ i, id = some i → g'.base i = g.base i
 own : ∀ b p, g.own b = some (id, p) → w'.heap[b]? = w.heap[b]? ∧ g'.own b = some (id, p)
theorem Same.refl (g : Gh) (w : World) (id : RId) : Same g w g w id := ⟨fun _ => rfl, fun _ _ => rfl, fun _ _ h => ⟨rfl, h⟩⟩
theorem Same.trans {g1 g2 g3 : Gh} {w1 w2 w3 : World} {id : RId} (h : Same g1 w1 g2 w2 id) (k : Same g2 w2 g3 w3 id) : Same g1 w1 g3 w3 id :=
 ⟨fun p => (k.hdr p).trans (h.hdr p), fun i e => (k.base i e).trans (h.base i e), fun b p ho =>
  let ⟨e1, o1⟩ := h.own b p ho
  let ⟨e2, o2⟩ := k.own b p o1
  ⟨e2.trans e1, o2⟩⟩
theorem LRep.same {g g' : Gh} {w w' : World} {id : RId} (hs : Same g w g' w' id) {p : List Step} {n size : Nat} {E E' : Nat → List Value → Prop}
  (hE : ∀ i ds, i < n → E i ds → E' i ds) (h : LRep g w id p n size E) : LRep g' w' id p n size E' := by
 rcases h with h | ⟨a, cap, c, e, h1, h2, h3, h4, h5, h6, h7, h8⟩
 · exact .inl (by rw [hs.hdr]; exact h)
 · obtain ⟨e1, o1⟩ := hs.own _ _ h3
   refine .inr ⟨a, cap, c, e, by rw [hs.hdr]; exact h1, h2, o1, by rw [e1]; exact h4, h5, h6, h7, fun i hi => ?_⟩
   obtain ⟨ds, d1, d2⟩ := h8 i hi
   exact ⟨ds, cellsAt_of (by rw [add_block]; exact e1) d1, hE i ds hi d2⟩
structure Moved (g : Gh) (w : World) (hl : Option (RId × List Step)) (g' : Gh) (w' : World) (hl' : Option (RId × List Step)) (id : RId) (p : List Step) (id' : RId) (p' : List Step) : Prop where
 hdr : ∀ q, g'.hdr id' (p' ++ q) = g.hdr id (p ++ q)
 own : ∀ b q, g.own b = some (id, some (p ++ q)) → w'.heap[b]? = w.heap[b]? ∧ g'.own b = some (id', some (p' ++ q))
 hole : ∀ q, hl' = some (id', p' ++ q) ↔ hl = some (id, p ++ q)
theorem Moved.at {g g' : Gh} {w w' : World} {hl hl' : Option (RId × List Step)} {id id' : RId} {p p' : List Step} (h : Moved g w hl g' w' hl' id p id' p') (r : List Step) : Moved g w hl g' w' hl' id (p ++ r) id' (p' ++ r) :=
 ⟨fun q => by simpa [List.append_assoc] using h.hdr (r ++ q), fun b q => by simpa [List.append_assoc] using h.own b (r ++ q), fun q => by simpa [List.append_assoc] using h.hole (r ++ q)⟩
theorem ORep.move {g g' : Gh} {w w' : World} {hl hl' : Option (RId × List Step)} (hle : Le g w g' w') {id id' : RId} :
  ∀ (t : Ty) (m : Mask) (p p' : List Step) (x : t.den) (cs : List Value), Moved g w hl g' w' hl' id p id' p' → ORep g w hl id t m p x cs → ORep g' w' hl' id' t m p' x cs
 | .list t, .own m, p, p', xs, cs, hm, h => by
  rcases h with ⟨h1, h2⟩ | ⟨h1, h2, h3⟩
  · exact .inl ⟨by have := (hm.hole []).2; simp only [List.append_nil] at this; exact this h1, h2⟩
  · have e0 := hm.hdr []
    have e1 := hm.hole []
    simp only [List.append_nil] at e0 e1
    refine .inr ⟨fun e => h1 (e1.1 e), by rw [e0]; exact h2, ?_⟩
    rcases h3 with h3 | ⟨a, cap, c, e, h1, h2, h3, h4, h5, h6, h7, h8⟩
    · exact .inl (by rw [e0]; exact h3)
    · have e2 := hm.own a.block []
      simp only [List.append_nil] at e2
      obtain ⟨e3, e4⟩ := e2 h3
      refine .inr ⟨a, cap, c, e, by rw [e0]; exact h1, h2, e4, by rw [e3]; exact h4, h5, h6, h7, fun i hi => ?_⟩
      obtain ⟨ds, d1, hi', d2⟩ := h8 i hi
      exact ⟨ds, cellsAt_of (by rw [add_block]; exact e3) d1, hi', ORep.move hle t m _ _ _ ds (hm.at _) d2⟩
 | .prod a b, .prod ma mb, p, p', x, cs, hm, ⟨c, d, e, h1, h2⟩ => ⟨c, d, e, ORep.move hle a ma _ _ _ c (hm.at _) h1, ORep.move hle b mb _ _ _ d (hm.at _) h2⟩
 | .list t, .shr, p, _, xs, cs, _, h => SRep.le hle (.list t) xs cs h
 | .list t, .prod _ _, p, _, xs, cs, _, h => SRep.le hle (.list t) xs cs h
 | .prod a b, .shr, p, _, x, cs, _, h => SRep.le hle (.prod a b) x cs h
 | .prod a b, .own _, p, _, x, cs, _, h => SRep.le hle (.prod a b) x cs h
 | .int k, _, p, _, x, cs, _, h => SRep.le hle (.int k) x cs h
 | .bool, _, p, _, x, cs, _, h => SRep.le hle .bool x cs h
 | .str, _, p, _, x, cs, _, h => SRep.le hle .str x cs h
 | .unit, _, p, _, x, cs, _, h => SRep.le hle .unit x cs h
theorem Same.moved {g g' : Gh} {w w' : World} {hl hl' : Option (RId × List Step)} {id : RId} (hs : Same g w g' w' id) (hh : ∀ p, hl' = some (id, p) ↔ hl = some (id, p)) (p : List Step) : Moved g w hl g' w' hl' id p id p :=
 ⟨fun q => hs.hdr _, fun b q h => hs.own b _ h, fun q => hh _⟩
theorem ORep.same {g g' : Gh} {w w' : World} {hl hl' : Option (RId × List Step)} {id : RId} (hle : Le g w g' w') (hs : Same g w g' w' id) (hh : ∀ p, hl' = some (id, p) ↔ hl = some (id, p))
  (t : Ty) (m : Mask) (p : List Step) (x : t.den) (cs : List Value) (h : ORep g w hl id t m p x cs) : ORep g' w' hl' id t m p x cs := ORep.move hle t m p p x cs (hs.moved hh p) h
structure Freed (g : Gh) (w : World) (hl : Option (RId × List Step)) (g' : Gh) (w' : World) (id : RId) (p : List Step) : Prop where
 own : ∀ b q, g.own b = some (id, some (p ++ q)) → w'.heap[b]? = w.heap[b]? ∧ g'.own b = none
 hole : ∀ q, hl ≠ some (id, p ++ q)
theorem Freed.at {g g' : Gh} {w w' : World} {hl : Option (RId × List Step)} {id : RId} {p : List Step} (h : Freed g w hl g' w' id p) (r : List Step) : Freed g w hl g' w' id (p ++ r) :=
 ⟨fun b q => by simpa [List.append_assoc] using h.own b (r ++ q), fun q => by simpa [List.append_assoc] using h.hole (r ++ q)⟩
theorem block_lt {w : World} {b : Nat} {o : Obj} (h : w.heap[b]? = some o) : b < w.heap.size := (Array.getElem?_eq_some_iff.1 h).1
theorem ORep.free {g g' : Gh} {w w' : World} {hl : Option (RId × List Step)} (hle : Le g w g' w') {id : RId} :
  ∀ (t : Ty) (m : Mask) (p : List Step) (x : t.den) (cs : List Value), Freed g w hl g' w' id p → ORep g w hl id t m p x cs → SRep g' w' t x cs
 | .list t, .own m, p, xs, cs, hm, h => by
  rcases h with ⟨h1, h2⟩ | ⟨h1, h2, h3⟩
  · exact absurd (by simpa using h1) (hm.hole [])
  · rcases h3 with ⟨h3, h4⟩ | ⟨a, cap, c, e, h4, h5, h6, h7, h8, h9, h10, h11⟩
    · exact .inl ⟨by rw [h2, h3], List.eq_nil_of_length_eq_zero h4⟩
    · have e2 := hm.own a.block []
      simp only [List.append_nil] at e2
      obtain ⟨e3, e4⟩ := e2 h6
      refine .inr ⟨a, cap, by rw [h2, h4], fun _ => h5, h8, fun i hi => ?_⟩
      obtain ⟨ds, d1, hi', d2⟩ := h11 i hi
      exact ⟨e4, Nat.lt_of_lt_of_le (block_lt h7) hle.size, ds, cellsAt_of (by rw [add_block]; exact e3) d1, ORep.free hle t m _ _ ds (hm.at _) d2⟩
 | .prod a b, .prod ma mb, p, x, cs, hm, ⟨c, d, e, h1, h2⟩ => ⟨c, d, e, ORep.free hle a ma _ _ c (hm.at _) h1, ORep.free hle b mb _ _ d (hm.at _) h2⟩
 | .list t, .shr, p, xs, cs, _, h => SRep.le hle (.list t) xs cs h
 | .list t, .prod _ _, p, xs, cs, _, h => SRep.le hle (.list t) xs cs h
 | .prod a b, .shr, p, x, cs, _, h => SRep.le hle (.prod a b) x cs h
 | .prod a b, .own _, p, x, cs, _, h => SRep.le hle (.prod a b) x cs h
 | .int k, _, p, x, cs, _, h => SRep.le hle (.int k) x cs h
 | .bool, _, p, x, cs, _, h => SRep.le hle .bool x cs h
 | .str, _, p, x, cs, _, h => SRep.le hle .str x cs h
 | .unit, _, p, x, cs, _, h => SRep.le hle .unit x cs h
theorem ORep.plain {g : Gh} {w : World} {hl : Option (RId × List Step)} {id : RId} : ∀ (t : Ty) (m : Mask) (p : List Step) (x : t.den) (cs : List Value), t.lists = false → ORep g w hl id t m p x cs → SRep g w t x cs
 | .list t, _, _, _, _, h, _ => by simp [Ty.lists] at h
 | .prod a b, .prod ma mb, p, x, cs, hn, ⟨c, d, e, h1, h2⟩ => by
  simp only [Ty.lists, Bool.or_eq_false_iff] at hn
  exact ⟨c, d, e, ORep.plain a ma _ _ c hn.1 h1, ORep.plain b mb _ _ d hn.2 h2⟩
 | .prod a b, .shr, p, x, cs, _, h => h
 | .prod a b, .own _, p, x, cs, _, h => h
 | .int k, _, p, x, cs, _, h => h
 | .bool, _, p, x, cs, _, h => h
 | .str, _, p, x, cs, _, h => h
 | .unit, _, p, x, cs, _, h => h
theorem ORep.of_plain {g : Gh} {w : World} {hl : Option (RId × List Step)} {id : RId} : ∀ (t : Ty) (m : Mask) (p : List Step) (x : t.den) (cs : List Value), t.lists = false → SRep g w t x cs → ORep g w hl id t m p x cs
 | .list t, _, _, _, _, h, _ => by simp [Ty.lists] at h
 | .prod a b, .prod ma mb, p, x, cs, hn, ⟨c, d, e, h1, h2⟩ => by
  simp only [Ty.lists, Bool.or_eq_false_iff] at hn
  exact ⟨c, d, e, ORep.of_plain a ma _ _ c hn.1 h1, ORep.of_plain b mb _ _ d hn.2 h2⟩
 | .prod a b, .shr, p, x, cs, _, h => h
 | .prod a b, .own _, p, x, cs, _, h => h
 | .int k, _, p, x, cs, _, h => h
 | .bool, _, p, x, cs, _, h => h
 | .str, _, p, x, cs, _, h => h
 | .unit, _, p, x, cs, _, h => h
theorem ORep.shr {g : Gh} {w : World} {hl : Option (RId × List Step)} {id : RId} {p : List Step} {cs : List Value} : ∀ {t : Ty} {x : t.den}, ORep g w hl id t .shr p x cs ↔ SRep g w t x cs
 | .list t, _ => Iff.rfl
 | .prod a b, _ => Iff.rfl
 | .int k, _ => Iff.rfl
 | .bool, _ => Iff.rfl
 | .str, _ => Iff.rfl
 | .unit, _ => Iff.rfl
theorem ORep.len {g : Gh} {w : World} {hl : Option (RId × List Step)} {id : RId} : ∀ (t : Ty) (m : Mask) (p : List Step) (x : t.den) (cs : List Value), ORep g w hl id t m p x cs → cs.length = t.size
 | .list t, .own m, p, xs, cs, h => by
  rcases h with ⟨_, h⟩ | ⟨_, h, _⟩
  · exact h
  · rw [h]; rfl
 | .prod a b, .prod ma mb, p, x, cs, ⟨c, d, e, h1, h2⟩ => by rw [e, List.length_append, ORep.len a _ _ _ _ h1, ORep.len b _ _ _ _ h2]; rfl
 | .list t, .shr, p, xs, cs, h => SRep.len (.list t) xs cs h
 | .list t, .prod _ _, p, xs, cs, h => SRep.len (.list t) xs cs h
 | .prod a b, .shr, p, x, cs, h => SRep.len (.prod a b) x cs h
 | .prod a b, .own _, p, x, cs, h => SRep.len (.prod a b) x cs h
 | .int k, _, p, x, cs, h => SRep.len (.int k) x cs h
 | .bool, _, p, x, cs, h => SRep.len .bool x cs h
 | .str, _, p, x, cs, h => SRep.len .str x cs h
 | .unit, _, p, x, cs, h => SRep.len .unit x cs h
theorem RootRep.same {g g' : Gh} {w w' : World} {hl hl' : Option (RId × List Step)} {id : Id} (hle : Le g w g' w') (hs : Same g w g' w' (some id)) (hh : ∀ p, hl' = some (some id, p) ↔ hl = some (some id, p)) (o : Ob)
  (hb : ∀ f, o = .fbox (some f) → ∀ i ∈ f.caps, g'.base i = g.base i) (h : RootRep g w hl id o) : RootRep g' w' hl' id o := by
 have hbase := hs.base id rfl
 cases o with
 | vec m t xs => exact LRep.same hs (fun i ds hi ⟨h, d⟩ => ⟨h, ORep.same hle hs hh t m _ _ ds d⟩) h
 | box m v =>
  obtain ⟨cs, c, e, h1, h2, h3, h4, h5⟩ := h
  obtain ⟨e1, o1⟩ := hs.own _ _ h2
  exact ⟨cs, c, e, by rw [hbase]; exact h1, by rw [hbase]; exact o1, by rw [hbase, e1]; exact h3, by rw [hbase]; exact cellsAt_of e1 h4, ORep.same hle hs hh _ _ _ _ _ h5⟩
 | fbox f =>
  obtain ⟨h1, h2, ⟨c, e, h3⟩, h4⟩ := h
  obtain ⟨e1, o1⟩ := hs.own _ _ h2
  refine ⟨by rw [hbase]; exact h1, by rw [hbase]; exact o1, ⟨c, e, by rw [hbase, e1]; exact h3⟩, ?_⟩
  rw [hbase, World.cell?_of_block (w := w) e1, h4]
  cases f with
  | none => rfl
  | some f =>
   have : (f.caps.map fun i => Value.pointer (some (g.base i))) = f.caps.map fun i => Value.pointer (some (g'.base i)) :=
    List.map_congr_left fun i hi => by rw [hb f rfl i hi]
   simp only [this]
end Go.Ve
namespace Go.Ve
open Go Go.RowKit
def AddrOf (g : Gh) (id : RId) : Ty → List Step → List Step → Addr → Addr → Prop
 | _, _, [], a, b => b = a
 | t, pre, s :: p, a, b => match t, s with
  | .prod x _, .fst => AddrOf g id x (pre ++ [.fst]) p a b
  | .prod x y, .snd => AddrOf g id y (pre ++ [.snd]) p (a.add x.size) b
  | .list t, .idx i => ∃ h len cap, g.hdr id pre = .slice (some h) len cap ∧ h.spot = none ∧ i < len ∧ AddrOf g id t (pre ++ [.idx i]) p (h.add (i * t.size)) b
  | t, .arr i => ∃ u, arrEl t = some u ∧ i < 2 ∧ p = [] ∧ b = a.add (i * u.size)
  | _, _ => False
def AddrRoot (g : Gh) (id : Id) (s : Sig) (p : List Step) (a : Addr) : Prop := match s with
 | .vec t => p ≠ [] ∧ AddrOf g (some id) (.list t) [] p ⟨0, 0, none⟩ a
 | .box t => AddrOf g (some id) t [] p (g.base id) a
 | .fbox => p = [] ∧ a = g.base id
def RefAt (g : Gh) (id : Id) (s : Sig) (p : List Step) : Prop := (p = [] ∧ ∃ u, s = .vec u) ∨ ∃ c, AddrRoot g id s p c
def FnVal (g : Gh) (f : FnV) : Value := .func (.func f.f) #[] ((f.caps.map fun i => Value.pointer (some (g.base i))).toArray)
def TC (g : Gh) (w : World) (sg : Id → Option Sig) : TV → Ty → List Value → Prop
 | .val v, t, cs => v.t = t ∧ SRep g w v.t v.x cs
 | .nil, .list _, cs => cs = [.slice none 0 0]
 | .ref id p, .list t, cs => cs = [g.hdr (some id) p] ∧ ∀ s, sg id = some s → tyAt s.ty p = some (.list t) ∧ RefAt g id s p
 | .sub id p lo hi, .list t, cs => (∀ s, sg id = some s → tyAt s.ty p = some (.list t) ∧ RefAt g id s p) ∧ lo ≤ hi ∧
  ((g.hdr (some id) p = .slice none 0 0 ∧ hi = 0 ∧ cs = [.slice none 0 0]) ∨
   ∃ a len cap b, g.hdr (some id) p = .slice (some a) len cap ∧ a.spot = none ∧ len ≤ cap ∧ hi ≤ len ∧ (lo < cap → b = a.add (lo * t.size)) ∧ b.block = a.block ∧ b.spot = none ∧ b.off ≤ a.off + cap * t.size ∧ cs = [.slice (some b) (hi - lo) (cap - lo)])
 | .pr a b, .prod ta tb, cs => ∃ c d, cs = c ++ d ∧ c.length = ta.size ∧ d.length = tb.size ∧ TC g w sg a ta c ∧ TC g w sg b tb d
 | .dead, t, cs => cs.length = t.size
 | _, _, _ => False
def wrap (t : Ty) (cs : List Value) : Value := match t with
 | .prod _ _ => .agg cs.toArray
 | _ => cs.headD undef
def TRep1 (g : Gh) (w : World) (sg : Id → Option Sig) : TV → Value → Prop
 | .dead, _ => True
 | .nil, mv => mv = .slice none 0 0
 | .val v, mv => ∃ cs, SRep g w v.t v.x cs ∧ mv = wrap v.t cs
 | .addr id p, mv => ∃ a, mv = .pointer (some a) ∧ ∀ s, sg id = some s → AddrRoot g id s p a
 | .saddr v, mv => ∃ a cs, mv = .pointer (some a) ∧ a.spot = none ∧ (g.own a.block = none ∨ g.own a.block = some (none, none)) ∧ a.block < w.heap.size ∧ cellsAt w a cs ∧ SRep g w v.t v.x cs
 | .tad A, mv => ∃ a t cs, mv = .pointer (some a) ∧ a.spot = none ∧ (g.own a.block = none ∨ g.own a.block = some (none, none)) ∧ a.block < w.heap.size ∧ cellsAt w a cs ∧ TC g w sg A t cs
 | .fn f, mv => mv = FnVal g f
 | .nilfn, mv => mv = .nilFunc
 | .tup _, _ => False
 | tv, mv => ∃ t cs, TC g w sg tv t cs ∧ mv = wrap t cs
def All2 {α β : Type} (r : α → β → Prop) : List α → List β → Prop
 | [], [] => True
 | a :: l, b :: k => r a b ∧ All2 r l k
 | _, _ => False
theorem All2.imp {α β : Type} {r s : α → β → Prop} : ∀ {l : List α} {k : List β}, (∀ a ∈ l, ∀ b, r a b → s a b) → All2 r l k → All2 s l k
 | [], [], _, _ => trivial
 | a :: l, b :: k, h, ⟨h1, h2⟩ => ⟨h a (by simp) b h1, All2.imp (fun x hx y => h x (by simp [hx]) y) h2⟩
theorem All2.get {α β : Type} {r : α → β → Prop} : ∀ {l : List α} {k : List β}, All2 r l k → ∀ {j : Nat} {a : α}, l[j]? = some a → ∃ b, k[j]? = some b ∧ r a b
 | [], [], _, _, _, h => by simp at h
 | a :: l, b :: k, ⟨h1, h2⟩, 0, x, h => by simp at h; subst h; exact ⟨b, rfl, h1⟩
 | a :: l, b :: k, ⟨h1, h2⟩, j + 1, x, h => by simp at h; simpa using All2.get h2 h
def TRep (g : Gh) (w : World) (sg : Id → Option Sig) : TV → Value → Prop
 | .tup l, mv => ∃ vs : List Value, mv = .tuple vs.toArray ∧ All2 (TRep1 g w sg) l vs
 | tv, mv => TRep1 g w sg tv mv
structure Fits (g : Gh) (g' : Gh) (sg sg' : Id → Option Sig) (id : Id) : Prop where
 hdr : ∀ p, g'.hdr (some id) p = g.hdr (some id) p
 base : g'.base id = g.base id
 sig : ∀ s, sg' id = some s → sg id = some s
theorem AddrOf.congr {g g' : Gh} {id : RId} (h : ∀ p, g'.hdr id p = g.hdr id p) : ∀ (p : List Step) (t : Ty) (pre : List Step) (a b : Addr), AddrOf g id t pre p a b → AddrOf g' id t pre p a b
 | [], t, pre, a, b, e => by simpa [AddrOf] using e
 | s :: p, t, pre, a, b, e => by
  cases s with
  | fst => cases t <;> simp only [AddrOf] at e ⊢ <;> first | exact AddrOf.congr h p _ _ _ _ e | exact e
  | snd => cases t <;> simp only [AddrOf] at e ⊢ <;> first | exact AddrOf.congr h p _ _ _ _ e | exact e
  | idx i =>
   cases t <;> simp only [AddrOf] at e ⊢ <;> try exact e
   obtain ⟨hd, len, cap, e1, e2, e3, e4⟩ := e
   exact ⟨hd, len, cap, by rw [h]; exact e1, e2, e3, AddrOf.congr h p _ _ _ _ e4⟩
  | arr i =>
   cases t <;> simp only [AddrOf] at e ⊢ <;> exact e
theorem AddrRoot.congr {g g' : Gh} {id : Id} (h : ∀ p, g'.hdr (some id) p = g.hdr (some id) p) (hb : g'.base id = g.base id) {s : Sig} {p : List Step} {a : Addr} (e : AddrRoot g id s p a) : AddrRoot g' id s p a := by
 cases s with
 | vec t => exact ⟨e.1, AddrOf.congr h _ _ _ _ _ e.2⟩
 | box t => simp only [AddrRoot, hb] at e ⊢; exact AddrOf.congr h _ _ _ _ _ e
 | fbox => simpa [AddrRoot, hb] using e
theorem RefAt.congr {g g' : Gh} {id : Id} (h : ∀ p, g'.hdr (some id) p = g.hdr (some id) p) (hb : g'.base id = g.base id) {s : Sig} {p : List Step} (e : RefAt g id s p) : RefAt g' id s p :=
 e.imp (fun h => h) (fun ⟨c, k⟩ => ⟨c, k.congr h hb⟩)
theorem sameId_eq {a b : Id} : sameId a b = true ↔ a = b := by
 unfold sameId
 cases a; cases b
 simp [Nat.beq_eq]
theorem TC.le {g g' : Gh} {w w' : World} {sg sg' : Id → Option Sig} (hl : Le g w g' w') : ∀ (v : TV) (t : Ty) (cs : List Value), (∀ id, v.looks false id = true → Fits g g' sg sg' id) → TC g w sg v t cs → TC g' w' sg' v t cs
 | .val v, t, cs, _, ⟨h1, h2⟩ => ⟨h1, h2.le hl⟩
 | .nil, .list t, cs, _, h => h
 | .ref id p, .list t, cs, hf, ⟨h1, h2⟩ => by
  have f := hf id (by simp [TV.looks, sameId_eq])
  exact ⟨by rw [f.hdr]; exact h1, fun s hs => ⟨(h2 s (f.sig s hs)).1, (h2 s (f.sig s hs)).2.congr f.hdr f.base⟩⟩
 | .sub id p lo hi, .list t, cs, hf, ⟨h1, h2, h3⟩ => by
  have f := hf id (by simp [TV.looks, sameId_eq])
  exact ⟨fun s hs => ⟨(h1 s (f.sig s hs)).1, (h1 s (f.sig s hs)).2.congr f.hdr f.base⟩, h2, by rw [f.hdr]; exact h3⟩
 | .pr a b, .prod ta tb, cs, hf, ⟨c, d, e, l1, l2, h1, h2⟩ =>
  ⟨c, d, e, l1, l2, TC.le hl a ta c (fun id h => hf id (by simp [TV.looks, h])) h1, TC.le hl b tb d (fun id h => hf id (by simp [TV.looks, h])) h2⟩
 | .dead, t, cs, _, h => by cases t <;> exact h
theorem TRep1.le {g g' : Gh} {w w' : World} {sg sg' : Id → Option Sig} (hl : Le g w g' w') (v : TV) (mv : Value) (hf : ∀ id, v.looks false id = true → Fits g g' sg sg' id) (h : TRep1 g w sg v mv) : TRep1 g' w' sg' v mv := by
 cases v with
 | dead => trivial
 | nil => exact h
 | val v => obtain ⟨cs, h1, h2⟩ := h; exact ⟨cs, h1.le hl, h2⟩
 | addr id p =>
  have f := hf id (by simp [TV.looks, sameId_eq])
  obtain ⟨a, h1, h2⟩ := h
  exact ⟨a, h1, fun s hs => (h2 s (f.sig s hs)).congr f.hdr f.base⟩
 | saddr v =>
  obtain ⟨a, cs, h1, h2, h3, h4, h5, h6⟩ := h
  have ⟨e1, o1⟩ : w'.heap[a.block]? = w.heap[a.block]? ∧ (g'.own a.block = none ∨ g'.own a.block = some (none, none)) := by
   rcases h3 with h3 | h3
   · exact ⟨(hl.keep _ h4 h3).1, .inl (hl.keep _ h4 h3).2⟩
   · exact ⟨(hl.hid _ h4 h3).1, .inr (hl.hid _ h4 h3).2⟩
  exact ⟨a, cs, h1, h2, o1, Nat.lt_of_lt_of_le h4 hl.size, cellsAt_of e1 h5, h6.le hl⟩
 | tad A =>
  obtain ⟨a, t, cs, h1, h2, h3, h4, h5, h6⟩ := h
  have ⟨e1, o1⟩ : w'.heap[a.block]? = w.heap[a.block]? ∧ (g'.own a.block = none ∨ g'.own a.block = some (none, none)) := by
   rcases h3 with h3 | h3
   · exact ⟨(hl.keep _ h4 h3).1, .inl (hl.keep _ h4 h3).2⟩
   · exact ⟨(hl.hid _ h4 h3).1, .inr (hl.hid _ h4 h3).2⟩
  exact ⟨a, t, cs, h1, h2, o1, Nat.lt_of_lt_of_le h4 hl.size, cellsAt_of e1 h5, h6.le hl _ _ _ hf⟩
 | fn f =>
  have : (f.caps.map fun i => Value.pointer (some (g.base i))) = f.caps.map fun i => Value.pointer (some (g'.base i)) :=
   List.map_congr_left fun i hi => by rw [(hf i (by simp only [TV.looks, Bool.not_false, Bool.true_and, List.any_eq_true]; exact ⟨i, hi, sameId_eq.2 rfl⟩)).base]
  simp only [TRep1, FnVal] at h ⊢
  rw [h, this]
 | nilfn => exact h
 | tup l => exact h.elim
 | ref id p => obtain ⟨t, cs, h1, h2⟩ := h; exact ⟨t, cs, h1.le hl _ _ _ hf, h2⟩
 | sub id p lo hi => obtain ⟨t, cs, h1, h2⟩ := h; exact ⟨t, cs, h1.le hl _ _ _ hf, h2⟩
 | pr a b => obtain ⟨t, cs, h1, h2⟩ := h; exact ⟨t, cs, h1.le hl _ _ _ hf, h2⟩
theorem looksAny_mem {id : Id} {d : Bool} : ∀ {l : List TV} {a : TV}, a ∈ l → a.looks d id = true → TV.looks.looksAny d id l = true
 | _ :: l, a, h, e => by
  simp only [TV.looks.looksAny, Bool.or_eq_true]
  rcases List.mem_cons.1 h with rfl | h
  · exact .inl e
  · exact .inr (looksAny_mem h e)
theorem TRep.le {g g' : Gh} {w w' : World} {sg sg' : Id → Option Sig} (hl : Le g w g' w') (v : TV) (mv : Value) (hf : ∀ id, v.looks false id = true → Fits g g' sg sg' id) (h : TRep g w sg v mv) : TRep g' w' sg' v mv := by
 cases v with
 | tup l =>
  obtain ⟨vs, h1, h2⟩ := h
  exact ⟨vs, h1, All2.imp (fun a ha b hb => hb.le hl a b fun id hid => hf id (by simpa [TV.looks] using looksAny_mem ha hid)) h2⟩
 | dead => exact TRep1.le hl .dead mv hf h
 | nil => exact TRep1.le hl .nil mv hf h
 | val v => exact TRep1.le hl (.val v) mv hf h
 | ref i p => exact TRep1.le hl (.ref i p) mv hf h
 | sub i p l k => exact TRep1.le hl (.sub i p l k) mv hf h
 | addr i p => exact TRep1.le hl (.addr i p) mv hf h
 | saddr v => exact TRep1.le hl (.saddr v) mv hf h
 | tad A => exact TRep1.le hl (.tad A) mv hf h
 | fn f => exact TRep1.le hl (.fn f) mv hf h
 | nilfn => exact TRep1.le hl .nilfn mv hf h
 | pr a b => exact TRep1.le hl (.pr a b) mv hf h
def St.hl (s : St) : Option (RId × List Step) := s.hole.map fun x => (some x.1, x.2)
structure Fra where
 ok : Gh → World → Prop
 step : ∀ {g w g' w'}, ok g w → Le g w g' w' → ok g' w'
theorem Fra.ok.trans {F : Fra} {g g' : Gh} {w w' : World} (h : F.ok g w) (hl : Le g w g' w') : F.ok g' w' := F.step h hl
def Fra.at (g : Gh) (w : World) : Fra := ⟨Le g w, fun h k => h.trans k⟩
def Fra.and (F : Fra) (g : Gh) (w : World) : Fra := ⟨fun g' w' => F.ok g' w' ∧ Le g w g' w', fun h k => ⟨F.step h.1 k, h.2.trans k⟩⟩
structure R (g0 : Gh) (w0 : Fra) (N : Nat) (s : St) (g : Gh) (a : Act) (w : World) : Prop where
 frame : w0.ok g w
 tmps : ∀ t, TRep g w s.sig (s.tmp t) (a.tmps.getD t undef)
 objs : ∀ id o, s.obj id = some o → RootRep g w s.hl id o
 lives : ∀ b o, g.own b = some o → b < w.heap.size
 defers : a.defers = []
 size : a.tmps.size = N
 small : N ≤ 1000000
 ext : ∀ id o, s.obj id = some o → 1000000 ≤ id.1 → g.base id = g0.base id ∧ ((∃ u, o.sig = .vec u) → g.hdr (some id) [] = g0.hdr (some id) [])
end Go.Ve
namespace Go.Ve
open Go Go.RowKit
theorem cellsAt.app {w : World} {a : Addr} {c d : List Value} (ha : a.spot = none) (h : cellsAt w a (c ++ d)) : cellsAt w a c ∧ cellsAt w (a.add c.length) d := by
 constructor
 · intro j hj
   have := h j (by simp; omega)
   rwa [List.getElem_append_left hj] at this
 · intro j hj
   have := h (c.length + j) (by simp; omega)
   rw [add_add ha]
   rw [this, List.getElem_append_right (by omega)]
   simp
theorem cellsAt.join {w : World} {a : Addr} {c d : List Value} (ha : a.spot = none) (h1 : cellsAt w a c) (h2 : cellsAt w (a.add c.length) d) : cellsAt w a (c ++ d) := by
 intro j hj
 by_cases hc : j < c.length
 · rw [List.getElem_append_left hc]; exact h1 j hc
 · have := h2 (j - c.length) (by simp at hj; omega)
   rw [add_add ha, show c.length + (j - c.length) = j by omega] at this
   rw [this, List.getElem_append_right (by omega)]
theorem ORep.split {g : Gh} {w : World} {hl : Option (RId × List Step)} {id : RId} {a b : Ty} {p : List Step} {x : (Ty.prod a b).den} {cs : List Value} : ∀ {m : Mask}, ORep g w hl id (.prod a b) m p x cs →
  ∃ c d, cs = c ++ d ∧ ORep g w hl id a m.fst (p ++ [.fst]) x.1 c ∧ ORep g w hl id b m.snd (p ++ [.snd]) x.2 d
 | .prod _ _, h => h
 | .shr, ⟨c, d, e, h1, h2⟩ => ⟨c, d, e, ORep.shr.2 h1, ORep.shr.2 h2⟩
 | .own _, ⟨c, d, e, h1, h2⟩ => ⟨c, d, e, ORep.shr.2 h1, ORep.shr.2 h2⟩
theorem ORep.mk {g : Gh} {w : World} {hl : Option (RId × List Step)} {id : RId} {a b : Ty} {p : List Step} {x : (Ty.prod a b).den} {ma mb : Mask} {c d : List Value}
  (h1 : ORep g w hl id a ma (p ++ [.fst]) x.1 c) (h2 : ORep g w hl id b mb (p ++ [.snd]) x.2 d) : ORep g w hl id (.prod a b) (Mask.mk ma mb) p x (c ++ d) := by
 unfold Mask.mk
 split
 · exact ⟨c, d, rfl, ORep.shr.1 h1, ORep.shr.1 h2⟩
 · exact ⟨c, d, rfl, h1, h2⟩
def Clear (hl : Option (RId × List Step)) (id : RId) (pre path : List Step) : Prop := ∀ q s r, path = q ++ s :: r → hl ≠ some (id, pre ++ q)
theorem Clear.tail {hl : Option (RId × List Step)} {id : RId} {pre : List Step} {s : Step} {path : List Step} (h : Clear hl id pre (s :: path)) : Clear hl id (pre ++ [s]) path :=
 fun q s' r e => by have := h (s :: q) s' r (by simp [e]); simpa using this
theorem Clear.none {id : RId} {pre path : List Step} : Clear none id pre path := fun _ _ _ _ => by simp
theorem arrEl_self {a : Ty} (h : a.lists = false) : arrEl (.prod a a) = some a := by
 simp only [arrEl]
 split
 · simp [h]
 · rename_i e _; exact absurd rfl e
theorem arrEl_some {t a : Ty} (h : arrEl t = some a) : t = .prod a a ∧ a.lists = false := by
 cases t with
 | prod b c =>
  simp only [arrEl] at h
  split at h
  · rename_i e _
    subst e
    cases hl : c.lists
    · simp only [hl, cond_false, Option.some.injEq] at h; subst h; exact ⟨rfl, hl⟩
    · simp [hl] at h
  · cases h
 | _ => simp [arrEl] at h
theorem arrGet_some {i : Nat} {t : Ty} {x : t.den} {v : Val} (h : arrGet i ⟨t, x⟩ = some v) : ∃ a, ∃ e : t = .prod a a, a.lists = false ∧ arrEl t = some a ∧ v = ⟨a, bif Nat.beq i 0 then (e ▸ x : (Ty.prod a a).den).1 else (e ▸ x : (Ty.prod a a).den).2⟩ := by
 cases t with
 | prod a b =>
  simp only [arrGet] at h
  split at h
  · rename_i e _
    subst e
    cases hl : b.lists
    · simp only [hl, cond_false, Option.some.injEq] at h
      exact ⟨b, rfl, hl, arrEl_self hl, h.symm⟩
    · simp [hl] at h
  · cases h
 | _ => simp [arrGet] at h
theorem focus {g : Gh} {w : World} {hl : Option (RId × List Step)} {id : RId} : ∀ (path : List Step) (t : Ty) (m : Mask) (pre : List Step) (x : t.den) (cs : List Value) (a b : Addr) (m' : Mask) (v : Val), Clear hl id pre path →
  a.spot = none → (∃ c e, w.heap[a.block]? = some (.cells c e (0, 0))) → ORep g w hl id t m pre x cs → cellsAt w a cs → AddrOf g id t pre path a b → get path m ⟨t, x⟩ = some (m', v) →
  b.spot = none ∧ (∃ c e, w.heap[b.block]? = some (.cells c e (0, 0))) ∧ (g.own b.block = g.own a.block ∨ ∃ q0, g.own b.block = some (id, some (pre ++ q0)) ∧ ∃ r, path = q0 ++ r ∧ r ≠ []) ∧
  ∃ ds, cellsAt w b ds ∧ ORep g w hl id v.t m' (pre ++ path) v.x ds
 | [], t, m, pre, x, cs, a, b, m', v, _, ha, hk, ho, hc, hb, hg => by
  simp only [AddrOf] at hb
  simp only [get, Option.some.injEq, Prod.mk.injEq] at hg
  obtain ⟨rfl, rfl⟩ := hg
  subst hb
  exact ⟨ha, hk, .inl rfl, cs, hc, by simpa using ho⟩
 | .fst :: path, t, m, pre, x, cs, a, b, m', v, hcl, ha, hk, ho, hc, hb, hg => by
  cases t <;> simp only [AddrOf] at hb
  simp only [get] at hg
  obtain ⟨c, d, rfl, h1, h2⟩ := ho.split
  obtain ⟨r1, r2, r3, r4⟩ := focus path _ _ _ _ c a b m' v hcl.tail ha hk h1 (hc.app ha).1 hb hg
  exact ⟨r1, r2, r3.imp (fun h => h) (fun ⟨q, e, r, e1, e2⟩ => ⟨.fst :: q, by simpa using e, r, by simp [e1], e2⟩), by simpa using r4⟩
 | .snd :: path, t, m, pre, x, cs, a, b, m', v, hcl, ha, hk, ho, hc, hb, hg => by
  cases t <;> simp only [AddrOf] at hb
  simp only [get] at hg
  obtain ⟨c, d, rfl, h1, h2⟩ := ho.split
  have e := h1.len
  have h3 := (hc.app ha).2
  rw [e] at h3
  obtain ⟨r1, r2, r3, r4⟩ := focus path _ _ _ _ d _ b m' v hcl.tail (add_spot ha _) (by rw [add_block]; exact hk) h2 h3 hb hg
  rw [add_block] at r3
  exact ⟨r1, r2, r3.imp (fun h => h) (fun ⟨q, e, r, e1, e2⟩ => ⟨.snd :: q, by simpa using e, r, by simp [e1], e2⟩), by simpa using r4⟩
 | .idx i :: path, t, m, pre, x, cs, a, b, m', v, hcl, ha, hk, ho, hc, hb, hg => by
  cases t <;> simp only [AddrOf] at hb
  rename_i t
  obtain ⟨hd, len, cap, e1, e2, e3, e4⟩ := hb
  cases m <;> simp only [get] at hg <;> try (cases hg)
  rename_i m
  rcases ho with ⟨h1, _⟩ | ⟨_, _, h3⟩
  · exact absurd (by simpa using h1) (hcl [] (.idx i) path rfl)
  · rcases h3 with ⟨h3, _⟩ | ⟨a', cap', c, e, h4, h5, h6, h7, h8, h9, h10, h11⟩
    · rw [h3] at e1; cases e1
    · rw [h4] at e1
      obtain ⟨rfl, rfl, rfl⟩ : a' = hd ∧ List.length x = len ∧ cap' = cap := by
       injection e1 with e1 e2 e3; injection e1 with e1; exact ⟨e1, e2, e3⟩
      obtain ⟨ds, d1, hi, d2⟩ := h11 i e3
      have hx : (x : List t.den).getD i t.zero = x[i] := by simp [List.getD, hi]
      rw [hx] at hg
      obtain ⟨r1, r2, r3, r4⟩ := focus path t m _ _ ds _ b m' v hcl.tail (add_spot e2 _) (by rw [add_block]; exact ⟨c, e, h7⟩) d2 d1 e4 hg
      rw [add_block, h6] at r3
      refine ⟨r1, r2, .inr ?_, by simpa using r4⟩
      rcases r3 with r3 | ⟨q, e, r, e1, e2⟩
      · exact ⟨[], by simpa using r3, .idx i :: path, rfl, by simp⟩
      · exact ⟨.idx i :: q, by simpa using e, r, by simp [e1], e2⟩
 | .arr i :: path, t, m, pre, x, cs, a, b, m', v, hcl, ha, hk, ho, hc, hb, hg => by
  have hb' : ∃ u, arrEl t = some u ∧ i < 2 ∧ path = [] ∧ b = a.add (i * u.size) := by
   cases t <;> simpa only [AddrOf] using hb
  obtain ⟨u, e1, e2, rfl, rfl⟩ := hb'
  obtain ⟨rfl, hu⟩ := arrEl_some e1
  cases hw : arrGet i ⟨.prod u u, x⟩ with
  | none => cases m <;> simp [get, hw] at hg
  | some w' =>
   have hg' : some (Mask.shr, w') = some (m', v) := by cases m <;> simpa [get, hw] using hg
   obtain ⟨rfl, rfl⟩ := Prod.mk.inj (Option.some.inj hg')
   obtain ⟨a', e, h1, h2, h3⟩ := arrGet_some hw
   obtain ⟨rfl, _⟩ := Ty.prod.inj e
   simp only at h3
   have hs := ORep.plain _ _ _ _ _ (by simp [Ty.lists, hu]) ho
   obtain ⟨c, d, rfl, s1, s2⟩ := hs
   have l1 := s1.len
   obtain ⟨q1, q2⟩ := hc.app ha
   subst h3
   refine ⟨add_spot ha _, by rw [add_block]; exact hk, .inl (by rw [add_block]), ?_⟩
   have : i = 0 ∨ i = 1 := by omega
   rcases this with rfl | rfl
   · exact ⟨c, by simpa [add_zero] using q1, ORep.shr.2 s1⟩
   · exact ⟨d, by rw [l1] at q2; simpa using q2, ORep.shr.2 s2⟩
theorem castD_self (t : Ty) (x : t.den) : castD t ⟨t, x⟩ = x := by simp [castD]
theorem castTo_self (t : Ty) (x : t.den) : castTo t ⟨t, x⟩ = some x := by simp [castTo]
theorem castTo_some {t : Ty} {v : Val} {x : t.den} (h : castTo t v = some x) : v = ⟨t, x⟩ := by
 obtain ⟨u, y⟩ := v
 unfold castTo at h
 split at h
 · rename_i e
   simp only at e
   subst e
   simp only [Option.some.injEq] at h
   subst h
   rfl
 · cases h
structure Wr (g : Gh) (w : World) (hl : Option (RId × List Step)) (g' : Gh) (w' : World) (hl' : Option (RId × List Step)) (id : RId) (P : List Step) (B o n : Nat) : Prop where
 le : Le g w g' w'
 lab : ∃ L, g.own B = some (id, L) ∧ g'.own B = some (id, L) ∧ ∀ q, L = some q → ∃ r, P = q ++ r ∧ r ≠ []
 oth : ∀ b q, g.own b = some (id, q) → b ≠ B → (∀ r, q ≠ some (P ++ r)) → w'.heap[b]? = w.heap[b]? ∧ g'.own b = some (id, q)
 hdr : ∀ q, (∀ r, q ≠ P ++ r) → g'.hdr id q = g.hdr id q
 hole : ∀ q, (∀ r, q ≠ P ++ r) → (hl' = some (id, q) ↔ hl = some (id, q))
 blk : ∃ c c' e, w.heap[B]? = some (.cells c e (0, 0)) ∧ w'.heap[B]? = some (.cells c' e (0, 0)) ∧ c'.size = c.size
 cell : ∀ off, off < o ∨ o + n ≤ off → w'.cell? ⟨B, off, none⟩ = w.cell? ⟨B, off, none⟩
section
variable {g g' : Gh} {w w' : World} {hl hl' : Option (RId × List Step)} {id : RId} {P : List Step} {B o n : Nat}
theorem Wr.cells (W : Wr g w hl g' w' hl' id P B o n) {a : Addr} {cs : List Value} (ha : a.spot = none) (hb : a.block ≠ B → w'.heap[a.block]? = w.heap[a.block]?)
  (ho : a.block = B → a.off + cs.length ≤ o ∨ o + n ≤ a.off) (h : cellsAt w a cs) : cellsAt w' a cs := by
 by_cases e : a.block = B
 · intro j hj
   rw [add_eq ha, e]
   have h0 := h j hj
   rw [add_eq ha, e] at h0
   rw [W.cell _ (by have := ho e; omega)]
   exact h0
 · exact cellsAt_of (hb e) h
theorem Wr.beside (W : Wr g w hl g' w' hl' id P B o n) {t : Ty} {m : Mask} {q : List Step} {x : t.den} {cs : List Value} (hq : ∀ r r', q ++ r ≠ P ++ r') (h : ORep g w hl id t m q x cs) : ORep g' w' hl' id t m q x cs := by
 refine ORep.move W.le t m q q x cs ⟨fun r => W.hdr _ (fun r' => hq r r'), fun b r hb => ?_, fun r => W.hole _ (fun r' => hq r r')⟩ h
 refine W.oth b _ hb (fun e => ?_) (fun r' e => hq r r' (by injection e))
 subst e
 obtain ⟨L, l1, _, l3⟩ := W.lab
 rw [l1] at hb
 injection hb with hb
 injection hb with _ hb
 obtain ⟨r', e, _⟩ := l3 _ hb
 exact hq (r ++ r') [] (by rw [e]; simp)
theorem ne_of_head {pre : List Step} {s s' : Step} {path : List Step} (hne : s ≠ s') (r r' : List Step) : (pre ++ [s']) ++ r ≠ (pre ++ s :: path) ++ r' := by
 intro e
 simp only [List.append_assoc] at e
 have := List.append_cancel_left e
 simp at this
 exact hne this.1.symm
theorem above {pre path : List Step} {L : Option (List Step)} (hP : P = pre ++ path) (h : ∀ q, L = some q → ∃ r, pre = q ++ r ∧ r ≠ []) (r : List Step) : L ≠ some (P ++ r) := by
 intro e
 obtain ⟨r1, r2, r3⟩ := h _ e
 rw [hP] at r2
 have := congrArg List.length r2
 simp only [List.length_append] at this
 have : 0 < r1.length := List.length_pos_iff.2 r3
 omega
theorem apart {pre : List Step} {L : Option (List Step)} (h : ∀ q, L = some q → ∃ r, pre = q ++ r ∧ r ≠ []) (q0 : List Step) : L ≠ some (pre ++ q0) := by
 intro e
 obtain ⟨r1, r2, r3⟩ := h _ e
 have := congrArg List.length r2
 simp only [List.length_append] at this
 have : 0 < r1.length := List.length_pos_iff.2 r3
 omega
theorem ORep.set (W : Wr g w hl g' w' hl' id P B o n) {m' : Mask} : ∀ (path : List Step) (t : Ty) (m : Mask) (pre : List Step) (x : t.den) (cs : List Value) (a b : Addr) (m0 : Mask) (v : Val) (y : v.t.den) (M : Mask) (ds : List Value),
  P = pre ++ path → Clear hl id pre path → a.spot = none → (∃ c e, w.heap[a.block]? = some (.cells c e (0, 0))) → ORep g w hl id t m pre x cs → cellsAt w a cs → AddrOf g id t pre path a b → get path m ⟨t, x⟩ = some (m0, v) →
  b.block = B → b.off = o → v.t.size = n → (∃ L, g.own a.block = some (id, L) ∧ ∀ q, L = some q → ∃ r, pre = q ++ r ∧ r ≠ []) →
  ORep g' w' hl' id v.t m' P y ds → cellsAt w' b ds → setMask path m t m' = some M →
  ∃ cs', cellsAt w' a cs' ∧ ORep g' w' hl' id t M pre (setVal path ⟨t, x⟩ ⟨v.t, y⟩) cs' ∧ (a.block = B → a.off ≤ o ∧ o + n ≤ a.off + t.size)
 | [], t, m, pre, x, cs, a, b, m0, v, y, M, ds, hP, _, ha, hk, ho, hc, hb, hg, hB, hO, hn, hL, hy, hd, hM => by
  simp only [AddrOf] at hb
  simp only [get, Option.some.injEq, Prod.mk.injEq] at hg
  obtain ⟨rfl, rfl⟩ := hg
  simp only [setMask, Option.some.injEq] at hM
  subst hM hb
  simp only [List.append_nil] at hP
  subst hP
  exact ⟨ds, hd, by simpa [setVal, castD_self] using hy, fun _ => ⟨by omega, by simp only at hn; omega⟩⟩
 | .fst :: path, t, m, pre, x, cs, a, b, m0, v, y, M, ds, hP, hcl, ha, hk, ho, hc, hb, hg, hB, hO, hn, hL, hy, hd, hM => by
  cases t <;> simp only [AddrOf] at hb
  rename_i t1 t2
  simp only [get] at hg
  obtain ⟨c, d, rfl, h1, h2⟩ := ho.split
  obtain ⟨q1, q2⟩ := hc.app ha
  have e1 := h1.len
  have e2 := h2.len
  simp only [setMask] at hM
  split at hM
  · rename_i q hq
    simp only [Option.some.injEq] at hM
    subst hM
    obtain ⟨c', k1, k2, k3⟩ := ORep.set W path _ _ (pre ++ [.fst]) _ c a b m0 v y q ds (by simp [hP]) hcl.tail ha hk h1 q1 hb hg hB hO hn
     (by obtain ⟨L, l1, l2⟩ := hL; exact ⟨L, l1, fun q e => by obtain ⟨r, e1, e2⟩ := l2 q e; exact ⟨r ++ [.fst], by simp [e1], by simp⟩⟩) hy hd hq
    have e3 := k2.len
    have k4 : ORep g' w' hl' id t2 m.snd (pre ++ [.snd]) x.2 d := W.beside (fun r r' => by rw [hP]; exact ne_of_head (by simp) r r') h2
    have k5 : cellsAt w' (a.add c'.length) d := by
     rw [e3, ← e1]
     refine W.cells (add_spot ha _) (fun hne => ?_) (fun he => ?_) q2
     · rw [add_block] at hne ⊢
       obtain ⟨L, l1, l2⟩ := hL
       exact (W.oth _ _ l1 hne (above hP l2)).1
     · rw [add_block] at he
       have := k3 he
       rw [add_off]
       right; omega
    refine ⟨c' ++ d, k1.join ha k5, by simp only [setVal]; exact ORep.mk (x := (_, x.2)) k2 k4, fun he => ?_⟩
    · have := k3 he
      simp only [Ty.size]
      omega
  · cases hM
 | .snd :: path, t, m, pre, x, cs, a, b, m0, v, y, M, ds, hP, hcl, ha, hk, ho, hc, hb, hg, hB, hO, hn, hL, hy, hd, hM => by
  cases t <;> simp only [AddrOf] at hb
  rename_i t1 t2
  simp only [get] at hg
  obtain ⟨c, d, rfl, h1, h2⟩ := ho.split
  obtain ⟨q1, q2⟩ := hc.app ha
  have e1 := h1.len
  have e2 := h2.len
  rw [e1] at q2
  simp only [setMask] at hM
  split at hM
  · rename_i q hq
    simp only [Option.some.injEq] at hM
    subst hM
    obtain ⟨d', k1, k2, k3⟩ := ORep.set W path _ _ (pre ++ [.snd]) _ d (a.add t1.size) b m0 v y q ds (by simp [hP]) hcl.tail (add_spot ha _) (by rw [add_block]; exact hk) h2 q2 hb hg hB hO hn
     (by rw [add_block]; obtain ⟨L, l1, l2⟩ := hL; exact ⟨L, l1, fun q e => by obtain ⟨r, e1, e2⟩ := l2 q e; exact ⟨r ++ [.snd], by simp [e1], by simp⟩⟩) hy hd hq
    rw [add_block, add_off] at k3
    have k4 : ORep g' w' hl' id t1 m.fst (pre ++ [.fst]) x.1 c := W.beside (fun r r' => by rw [hP]; exact ne_of_head (by simp) r r') h1
    refine ⟨c ++ d', cellsAt.join ha (W.cells ha (fun hne => ?_) (fun he => ?_) q1) (by rw [e1]; exact k1), by simp only [setVal]; exact ORep.mk (x := (x.1, _)) k4 k2, fun he => ?_⟩
    · obtain ⟨L, l1, l2⟩ := hL
      exact (W.oth _ _ l1 hne (above hP l2)).1
    · have := k3 he
      left; omega
    · have := k3 he
      simp only [Ty.size]
      omega
  · cases hM
 | .idx i :: path, t, m, pre, x, cs, a, b, m0, v, y, M, ds, hP, hcl, ha, hk, ho, hc, hb, hg, hB, hO, hn, hL, hy, hd, hM => by
  cases t <;> simp only [AddrOf] at hb
  rename_i t
  obtain ⟨hd', len, cap, e1, e2, e3, e4⟩ := hb
  cases m <;> simp only [get] at hg <;> try (cases hg)
  rename_i m
  simp only [setMask] at hM
  split at hM
  · rename_i q hq
    cases hqm : q == m
    · simp [hqm] at hM
    · simp only [hqm, cond_true, Option.some.injEq] at hM
      subst hM
      have hqm : q = m := by simpa using hqm
      subst hqm
      have hpre : ∀ r, pre ≠ P ++ r := fun r e => by rw [hP] at e; have := congrArg List.length e; simp at this
      rcases ho with ⟨h1, _⟩ | ⟨h0, h1, h3⟩
      · exact absurd (by simpa using h1) (hcl [] (.idx i) path rfl)
      · rcases h3 with ⟨h3, _⟩ | ⟨a', cap', c, e, h4, h5, h6, h7, h8, h9, h10, h11⟩
        · rw [h3] at e1; cases e1
        · rw [h4] at e1
          obtain ⟨rfl, rfl, rfl⟩ : a' = hd' ∧ List.length x = len ∧ cap' = cap := by
           injection e1 with e1 e2 e3; injection e1 with e1; exact ⟨e1, e2, e3⟩
          obtain ⟨es, d1, hi, d2⟩ := h11 i e3
          have hx : (x : List t.den).getD i t.zero = x[i] := by simp [List.getD, hi]
          rw [hx] at hg
          have hsv : setVal (.idx i :: path) ⟨.list t, x⟩ ⟨v.t, y⟩ = List.set x i (setVal path ⟨t, x[i]⟩ ⟨v.t, y⟩) := by
           cases path with
           | nil => simp only [setVal]
           | cons s p => simp only [setVal]; rw [hx]
          obtain ⟨es', k1, k2, k3⟩ := ORep.set W path t q (pre ++ [.idx i]) x[i] es (a'.add (i * t.size)) b m0 v y q ds (by simp [hP]) hcl.tail (add_spot e2 _) (by rw [add_block]; exact ⟨c, e, h7⟩) d2 d1 e4 hg hB hO hn
           (by rw [add_block]; exact ⟨_, h6, fun q e => by injection e with e; subst e; exact ⟨[.idx i], rfl, by simp⟩⟩) hy hd hq
          rw [add_block, add_off] at k3
          have far : a.block ≠ B := by
           intro he
           obtain ⟨L, l1, l2⟩ := hL
           obtain ⟨_, _, r3, _⟩ := focus path t q _ _ es _ b m0 v hcl.tail (add_spot e2 _) (by rw [add_block]; exact ⟨c, e, h7⟩) d2 d1 e4 hg
           rw [add_block, h6, hB, ← he, l1] at r3
           rcases r3 with r3 | ⟨q0, r3, _⟩
           · injection r3 with r3; injection r3 with _ r3; exact apart l2 [] (by simpa using r3)
           · injection r3 with r3; injection r3 with _ r3; exact apart l2 (.idx i :: q0) (by simpa using r3)
          have hne : a'.block ≠ B → w'.heap[a'.block]? = w.heap[a'.block]? ∧ g'.own a'.block = some (id, some pre) := fun hne =>
           W.oth _ _ h6 hne (fun r e => hpre r (by injection e))
          have hlab : g'.own a'.block = some (id, some pre) := by
           by_cases he : a'.block = B
           · obtain ⟨L, l1, l2, _⟩ := W.lab
             rw [he] at h6 ⊢
             rw [l1] at h6
             rw [l2, h6]
           · exact (hne he).2
          have hblk : ∃ c', w'.heap[a'.block]? = some (.cells c' e (0, 0)) ∧ c'.size = c.size := by
           by_cases he : a'.block = B
           · obtain ⟨c1, c2, e', b1, b2, b3⟩ := W.blk
             rw [he] at h7 ⊢
             rw [b1] at h7
             injection h7 with h7
             injection h7 with h7 h7'
             subst h7 h7'
             exact ⟨c2, b2, b3⟩
           · exact ⟨c, by rw [(hne he).1]; exact h7, rfl⟩
          obtain ⟨c', c1, c2⟩ := hblk
          refine ⟨cs, W.cells ha (fun hne => ?_) (fun he => ?_) hc, .inr ⟨fun e => h0 ((W.hole pre hpre).1 e), by rw [W.hdr pre hpre]; exact h1, .inr ⟨a', cap', c', e, by rw [W.hdr pre hpre, h4, hsv, List.length_set], h5, hlab, c1, by rw [hsv, List.length_set]; exact h8, h9, by rw [c2]; exact h10, fun j hj => ?_⟩⟩, fun he => ?_⟩
          · obtain ⟨L, l1, l2⟩ := hL
            exact (W.oth _ _ l1 hne (above hP l2)).1
          · exact (far he).elim
          · rw [hsv, List.length_set] at hj
            by_cases hij : i = j
            · subst hij
              exact ⟨es', k1, by rw [hsv, List.length_set]; exact hj, by simp only [hsv, List.getElem_set_self]; exact k2⟩
            · obtain ⟨fs, f1, f2, f3⟩ := h11 j hj
              have f4 := f3.len
              refine ⟨fs, W.cells (add_spot h5 _) (fun hne' => by rw [add_block] at hne' ⊢; exact (hne hne').1) (fun he => ?_) f1, by rw [hsv, List.length_set]; exact hj, ?_⟩
              · rw [add_block] at he
                have := k3 he
                rw [add_off, f4]
                have h1 : i < j ∨ j < i := by omega
                rcases h1 with h1 | h1
                · right
                  have := Nat.mul_le_mul_right t.size (show i + 1 ≤ j from h1)
                  rw [Nat.add_mul] at this
                  omega
                · left
                  have := Nat.mul_le_mul_right t.size (show j + 1 ≤ i from h1)
                  rw [Nat.add_mul] at this
                  omega
              · simp only [hsv, List.getElem_set_ne hij]
                exact W.beside (fun r r' => by rw [hP]; exact ne_of_head (by simp [hij]) r r') f3
          · exact (far he).elim
  · cases hM
 | .arr i :: path, t, m, pre, x, cs, a, b, m0, v, y, M, ds, hP, hcl, ha, hk, ho, hc, hb, hg, hB, hO, hn, hL, hy, hd, hM => by
  have hb' : ∃ u, arrEl t = some u ∧ i < 2 ∧ path = [] ∧ b = a.add (i * u.size) := by
   cases t <;> simpa only [AddrOf] using hb
  obtain ⟨u, e1, e2, rfl, rfl⟩ := hb'
  obtain ⟨rfl, hu⟩ := arrEl_some e1
  have hM' : M = m := by cases m <;> simpa [setMask, eq_comm] using hM
  subst hM'
  cases hw : arrGet i ⟨.prod u u, x⟩ with
  | none => cases M <;> simp [get, hw] at hg
  | some w' =>
   have hg' : some (Mask.shr, w') = some (m0, v) := by cases M <;> simpa [get, hw] using hg
   obtain ⟨rfl, rfl⟩ := Prod.mk.inj (Option.some.inj hg')
   obtain ⟨a', e, h1, h2, h3⟩ := arrGet_some hw
   obtain ⟨rfl, _⟩ := Ty.prod.inj e
   simp only at h3
   subst h3
   have hs := ORep.plain _ _ _ _ _ (by simp [Ty.lists, hu]) ho
   obtain ⟨c, d, rfl, s1, s2⟩ := hs
   have l1 := s1.len
   have l2 := s2.len
   obtain ⟨q1, q2⟩ := hc.app ha
   have sy := ORep.plain _ _ _ _ _ hu hy
   have l3 := sy.len
   simp only at hn y sy l3
   rw [add_block] at hB
   rw [add_off] at hO
   have hsv : setVal [.arr i] ⟨.prod u u, x⟩ ⟨u, y⟩ = (bif Nat.beq i 0 then (y, x.2) else (x.1, y) : u.den × u.den) := by
    simp only [setVal, arrSet, castD_self]
   have : i = 0 ∨ i = 1 := by omega
   rcases this with rfl | rfl
   · simp only [Nat.zero_mul, add_zero] at hd hO
     refine ⟨ds ++ d, hd.join ha ?_, ?_, fun _ => ⟨by omega, by simp only [Ty.size]; omega⟩⟩
     · rw [l3, ← l1]
       exact W.cells (add_spot ha _) (fun hne => by rw [add_block] at hne; exact absurd hB hne) (fun _ => by rw [add_off]; right; omega) q2
     · rw [hsv]
       exact ORep.of_plain _ _ _ _ _ (by simp [Ty.lists, hu]) ⟨ds, d, rfl, sy, s2.le W.le⟩
   · simp only [Nat.one_mul] at hd hO
     refine ⟨c ++ ds, cellsAt.join ha ?_ (by rw [l1]; exact hd), ?_, fun _ => ⟨by omega, by simp only [Ty.size]; omega⟩⟩
     · exact W.cells ha (fun hne => absurd hB hne) (fun _ => by left; omega) q1
     · rw [hsv]
       exact ORep.of_plain _ _ _ _ _ (by simp [Ty.lists, hu]) ⟨c, ds, rfl, s1.le W.le, sy⟩
theorem LRep.set (W : Wr g w hl g' w' hl' id P B o n) {m' : Mask} {i : Nat} {path : List Step} {t : Ty} {m : Mask} {xs : List t.den} {b : Addr} {m0 : Mask} {v : Val} {y : v.t.den} {ds : List Value}
  (hP : P = .idx i :: path) (hcl : Clear hl id [.idx i] path) (h : LRep g w id [] xs.length t.size (fun i ds => ∃ h : i < xs.length, ORep g w hl id t m [.idx i] xs[i] ds))
  (hb : ∃ h len cap, g.hdr id [] = .slice (some h) len cap ∧ h.spot = none ∧ i < len ∧ AddrOf g id t [.idx i] path (h.add (i * t.size)) b) (hg : get path m ⟨t, xs.getD i t.zero⟩ = some (m0, v)) (hB : b.block = B) (hO : b.off = o) (hn : v.t.size = n)
  (hy : ORep g' w' hl' id v.t m' P y ds) (hd : cellsAt w' b ds) (hM : setMask path m t m' = some m) :
  LRep g' w' id [] (List.set xs i (setVal path ⟨t, xs.getD i t.zero⟩ ⟨v.t, y⟩)).length t.size (fun j ds => ∃ h : j < (List.set xs i (setVal path ⟨t, xs.getD i t.zero⟩ ⟨v.t, y⟩)).length, ORep g' w' hl' id t m [.idx j] (List.set xs i (setVal path ⟨t, xs.getD i t.zero⟩ ⟨v.t, y⟩))[j] ds) := by
 obtain ⟨hd', len, cap, e1, e2, e3, e4⟩ := hb
 have hpre : ∀ r, ([] : List Step) ≠ P ++ r := fun r e => by rw [hP] at e; simp at e
 rcases h with ⟨h3, _⟩ | ⟨a', cap', c, e, h4, h5, h6, h7, h8, h9, h10, h11⟩
 · rw [h3] at e1; cases e1
 · rw [h4] at e1
   obtain ⟨rfl, rfl, rfl⟩ : a' = hd' ∧ List.length xs = len ∧ cap' = cap := by
    injection e1 with e1 e2 e3; injection e1 with e1; exact ⟨e1, e2, e3⟩
   obtain ⟨es, d1, hi, d2⟩ := h11 i e3
   have hx : (xs : List t.den).getD i t.zero = xs[i] := by simp [List.getD, hi]
   rw [hx] at hg
   obtain ⟨es', k1, k2, k3⟩ := ORep.set W path t m [.idx i] xs[i] es (a'.add (i * t.size)) b m0 v y m ds (by simp [hP]) hcl (add_spot e2 _) (by rw [add_block]; exact ⟨c, e, h7⟩) d2 d1 e4 hg hB hO hn
    (by rw [add_block]; exact ⟨_, h6, fun q e => by injection e with e; subst e; exact ⟨[.idx i], rfl, by simp⟩⟩) hy hd hM
   rw [add_block, add_off] at k3
   have hne : a'.block ≠ B → w'.heap[a'.block]? = w.heap[a'.block]? ∧ g'.own a'.block = some (id, some []) := fun hne =>
    W.oth _ _ h6 hne (fun r e => hpre r (by injection e))
   have hlab : g'.own a'.block = some (id, some []) := by
    by_cases he : a'.block = B
    · obtain ⟨L, l1, l2, _⟩ := W.lab
      rw [he] at h6 ⊢
      rw [l1] at h6
      rw [l2, h6]
    · exact (hne he).2
   have hblk : ∃ c', w'.heap[a'.block]? = some (.cells c' e (0, 0)) ∧ c'.size = c.size := by
    by_cases he : a'.block = B
    · obtain ⟨c1, c2, e', b1, b2, b3⟩ := W.blk
      rw [he] at h7 ⊢
      rw [b1] at h7
      injection h7 with h7
      injection h7 with h7 h7'
      subst h7 h7'
      exact ⟨c2, b2, b3⟩
    · exact ⟨c, by rw [(hne he).1]; exact h7, rfl⟩
   obtain ⟨c', c1, c2⟩ := hblk
   refine .inr ⟨a', cap', c', e, by rw [W.hdr [] hpre, h4, List.length_set], h5, hlab, c1, by rw [List.length_set]; exact h8, h9, by rw [c2]; exact h10, fun j hj => ?_⟩
   rw [List.length_set] at hj
   by_cases hij : i = j
   · subst hij
     exact ⟨es', k1, by rw [List.length_set]; exact hj, by simp only [List.getElem_set_self]; rw [hx]; exact k2⟩
   · obtain ⟨fs, f1, f2, f3⟩ := h11 j hj
     have f4 := f3.len
     refine ⟨fs, W.cells (add_spot h5 _) (fun hne' => by rw [add_block] at hne' ⊢; exact (hne hne').1) (fun he => ?_) f1, by rw [List.length_set]; exact hj, ?_⟩
     · rw [add_block] at he
       have := k3 he
       rw [add_off, f4]
       have h1 : i < j ∨ j < i := by omega
       rcases h1 with h1 | h1
       · right
         have := Nat.mul_le_mul_right t.size (show i + 1 ≤ j from h1)
         rw [Nat.add_mul] at this
         omega
       · left
         have := Nat.mul_le_mul_right t.size (show j + 1 ≤ i from h1)
         rw [Nat.add_mul] at this
         omega
     · simp only [List.getElem_set_ne hij]
       exact W.beside (fun r r' => by rw [hP]; exact ne_of_head (pre := []) (by simp [hij]) r r') f3
end
end Go.Ve
namespace Go.Ve
open Go Go.RowKit
section
variable {g0 : Gh} {w0 : Fra} {N : Nat} {s : St} {g : Gh} {a : Act} {w : World}
theorem upd_same {α : Type} (f : Nat → α) (n : Nat) (x : α) : upd f n x n = x := by simp [upd]
theorem upd_ne {α : Type} (f : Nat → α) {n u : Nat} (x : α) (h : u ≠ n) : upd f n x u = f u := by
 have : Nat.beq u n = false := by rw [Bool.eq_false_iff]; intro e; exact h (Nat.eq_of_beq_eq_true e)
 simp only [upd, this, cond_false]
theorem updI_same {α : Type} (f : Id → α) (n : Id) (x : α) : updI f n x n = x := by simp [updI]
theorem updI_ne {α : Type} (f : Id → α) {n u : Id} (x : α) (h : u ≠ n) : updI f n x u = f u := by
 have : (Nat.beq u.1 n.1 && Nat.beq u.2 n.2) = false := by
  rw [Bool.eq_false_iff]
  intro e
  exact h (sameId_eq.1 e)
 simp only [updI, this, cond_false]
theorem R.set (h : R g0 w0 N s g a w) {d : Nat} (hd : d < N) {v : TV} {mv : Value} (hv : TRep g w s.sig v mv) : R g0 w0 N (s.set d v) g (a.put (some d) mv) w where
 frame := h.frame
 tmps t := by
  show TRep g w s.sig (upd s.tmp d v t) _
  have hs := h.size
  by_cases e : t = d
  · subst e
    rw [upd_same]
    simp [Act.put, Array.getD_eq_getD_getElem?, hs, hd, hv]
  · rw [upd_ne _ _ e]
    have := h.tmps t
    simpa [Act.put, Array.getD_eq_getD_getElem?, Array.getElem?_setIfInBounds_ne (Ne.symm e)] using this
 objs := h.objs
 lives := h.lives
 defers := h.defers
 size := by simpa [Act.put] using h.size
 small := h.small
 ext := h.ext
theorem R.setD (h : R g0 w0 N s g a w) {d : Option Tmp} (hd : ∀ t, d = some t → t < N) {v : TV} {mv : Value} (hv : TRep g w s.sig v mv) : R g0 w0 N (s.setD d v) g (a.put d mv) w := by
 cases d with
 | none => exact h
 | some d => exact h.set (hd d rfl) hv
theorem TRep.dead {mv : Value} {sg : Id → Option Sig} : TRep g w sg .dead mv := trivial
theorem R.tmp (h : R g0 w0 N s g a w) {s' : St} (ht : ∀ t, s'.tmp t = s.tmp t ∨ s'.tmp t = .dead) (ho : ∀ id, s'.obj id = s.obj id) (hh : s'.hole = s.hole) : R g0 w0 N s' g a w where
 frame := h.frame
 tmps t := by
  have e : s'.sig = s.sig := funext fun id => by simp [St.sig, ho]
  rw [e]
  rcases ht t with k | k <;> rw [k]
  · exact h.tmps t
  · trivial
 objs id o := by rw [ho, St.hl, hh]; exact h.objs id o
 lives := h.lives
 defers := h.defers
 size := h.size
 small := h.small
 ext id o e := h.ext id o (by rw [← ho]; exact e)
theorem R.kill (h : R g0 w0 N s g a w) (deep : Bool) (id : Id) : R g0 w0 N (s.kill deep id) g a w :=
 h.tmp (fun t => by simp only [St.kill]; cases (s.tmp t).looks deep id <;> simp) (fun _ => rfl) rfl
theorem R.forget (h : R g0 w0 N s g a w) {s' : St} (ht : ∀ t, s'.tmp t = s.tmp t ∨ s'.tmp t = .dead) (ho : ∀ id o, s'.obj id = some o → s.obj id = some o) (hh : s'.hole = s.hole) : R g0 w0 N s' g a w where
 frame := h.frame
 tmps t := by
  rcases ht t with k | k <;> rw [k]
  · refine TRep.le (Le.refl g w) _ _ (fun id _ => ⟨fun _ => rfl, rfl, fun sg hs => ?_⟩) (h.tmps t)
    simp only [St.sig] at hs ⊢
    cases e : s'.obj id with
    | none => simp [e] at hs
    | some o => rw [ho _ _ e]; rw [e] at hs; exact hs
  · trivial
 objs id o e := by rw [St.hl, hh]; exact h.objs id o (ho id o e)
 lives := h.lives
 defers := h.defers
 size := h.size
 small := h.small
 ext id o e := h.ext id o (ho id o e)
theorem R.drop (h : R g0 w0 N s g a w) (id : Id) : R g0 w0 N (s.drop id) g a w :=
 h.forget (fun _ => .inl rfl) (fun i o e => by
  by_cases hi : i = id
  · subst hi; simp [St.drop, updI_same] at e
  · simpa [St.drop, updI_ne _ _ hi] using e) rfl
theorem R.purge (h : R g0 w0 N s g a w) (id : Id) : R g0 w0 N (s.purge id) g a w :=
 (h.kill false id).forget (fun _ => .inl rfl) (fun i o e => by
  simp only [St.purge, St.kill] at e ⊢
  cases hb : Ob.holds id (s.obj i) <;> simp [hb] at e
  exact e) rfl
theorem R.step (h : R g0 w0 N s g a w) {g' : Gh} {w' : World} (hl : Le g w g' w') (hv : ∀ b o, g'.own b = some o → b < w'.heap.size) (hs : ∀ id, (s.obj id).isSome = true ∨ (∃ t, (s.tmp t).looks false id = true) ∨ (∃ i f, s.obj i = some (.fbox (some f)) ∧ id ∈ f.caps) → Same g w g' w' (some id)) : R g0 w0 N s g' a w' where
 frame := h.frame.trans hl
 tmps t := TRep.le hl _ _ (fun id e => have k := hs id (.inr (.inl ⟨t, e⟩)); ⟨k.hdr, k.base _ rfl, fun _ h => h⟩) (h.tmps t)
 objs id o e := RootRep.same hl (hs id (.inl (by simp [e]))) (fun _ => Iff.rfl) o (fun f ef i hi => (hs i (.inr (.inr ⟨id, f, by rw [e, ef], hi⟩))).base _ rfl) (h.objs id o e)
 lives := hv
 defers := h.defers
 size := h.size
 small := h.small
 ext id o e hi := by
  have k := hs id (.inl (by simp [e]))
  rw [k.base id rfl, k.hdr]
  exact h.ext id o e hi
theorem Le.drew (g : Gh) (w : World) (n : Nat) : Le g w g (w.drewN n) := ⟨rfl, rfl, rfl, Nat.le_refl _, fun _ _ h => ⟨rfl, h⟩, fun _ _ h => ⟨rfl, h⟩⟩
theorem R.drew (h : R g0 w0 N s g a w) (n : Nat) : R g0 w0 N s g a (w.drewN n) := h.step (Le.drew g w n) h.lives fun id _ => ⟨fun _ => rfl, fun _ _ => rfl, fun _ _ h => ⟨rfl, h⟩⟩
theorem R.ev (h : R g0 w0 N s g a w) (x : Operand) : TRep g w s.sig (s.ev x) (a.eval x) := by
 cases x with
 | tmp t => exact h.tmps t
 | const v =>
  show TRep g w s.sig (constTV v) v
  unfold constTV
  split
  · exact ⟨_, rfl, rfl⟩
  · exact ⟨_, rfl, rfl⟩
  · exact ⟨_, rfl, rfl⟩
  · rfl
  · rfl
  · trivial
 | global _ => trivial
 | func f => rfl
theorem TRep.val {sg : Id → Option Sig} {t : Ty} {x : t.den} {mv : Value} (h : TRep g w sg (.val ⟨t, x⟩) mv) : ∃ cs, SRep g w t x cs ∧ mv = wrap t cs := h
theorem TRep.int {sg : Id → Option Sig} {k : IntKind} {x : Int} {mv : Value} (h : TRep g w sg (.val ⟨.int k, x⟩) mv) : mv = .int k x := by
 obtain ⟨cs, h1, h2⟩ := h.val; simp only [SRep] at h1; subst h1; exact h2
theorem TRep.bool {sg : Id → Option Sig} {x : Bool} {mv : Value} (h : TRep g w sg (.val ⟨.bool, x⟩) mv) : mv = .bool x := by
 obtain ⟨cs, h1, h2⟩ := h.val; simp only [SRep] at h1; subst h1; exact h2
theorem TRep.str {sg : Id → Option Sig} {x : ByteArray} {mv : Value} (h : TRep g w sg (.val ⟨.str, x⟩) mv) : mv = .string x := by
 obtain ⟨cs, h1, h2⟩ := h.val; simp only [SRep] at h1; subst h1; exact h2
theorem TRep.mkInt {sg : Id → Option Sig} (k : IntKind) (x : Int) : TRep g w sg (.val ⟨.int k, x⟩) (.int k x) := ⟨_, rfl, rfl⟩
theorem TRep.mkBool {sg : Id → Option Sig} (x : Bool) : TRep g w sg (.val ⟨.bool, x⟩) (.bool x) := ⟨_, rfl, rfl⟩
theorem TRep.mkStr {sg : Id → Option Sig} (x : ByteArray) : TRep g w sg (.val ⟨.str, x⟩) (.string x) := ⟨_, rfl, rfl⟩
end
end Go.Ve
namespace Go.Ve
open Go Go.RowKit
def zeroCells : Ty → List Value
 | .int k => [.int k 0]
 | .bool => [.bool false]
 | .str => [.string ⟨#[]⟩]
 | .list _ => [.slice none 0 0]
 | .prod a b => zeroCells a ++ zeroCells b
 | .unit => []
def Ty.deep : Ty → Nat
 | .prod a b => max a.deep b.deep + 1
 | _ => 0
structure TiOk (P : Program) (tab : Tab) (T : TypeId) (i : TI) : Prop where
 info : ∃ ti, P.info? T = some ti ∧ ti.size = i.ty.size ∧ ti.zero = some (wrap i.ty (zeroCells i.ty))
 pos : 0 < i.ty.size
 arity : 2 ≤ i.arity ∨ i.ty.isProd = false
 kind : match i.ty with
  | .int k => P.underlying T = some (.int k)
  | .bool => P.underlying T = some .bool
  | .str => P.underlying T = some .string
  | .list e => ∃ E ie ti, P.underlying T = some (.slice E) ∧ tab.ti E = some ie ∧ ie.ty = e ∧ P.info? E = some ti ∧ ti.bytes = i.bytes ∧ 0 < i.bytes
  | .prod a b => (i.isArr = true ∧ i.arity = 2 ∧ ∃ E ie, P.underlying T = some (.array 2 E) ∧ tab.ti E = some ie ∧ ie.ty = a ∧ b = a) ∨
   (i.isArr = false ∧ ∃ fs, P.underlying T = some (.struct fs) ∧ fs.size = i.arity ∧ ∀ j f, fs[j]? = some f → ∃ fi, tab.ti f.type = some fi ∧ compTy i.arity j i.ty = some fi.ty ∧ f.offset = compOff i.arity j i.ty)
  | .unit => False
 eqs : i.ty.isProd = true → i.ty.deep ≤ 9999 ∧ P.stoodInHeld T = false ∧ P.eqGuardType P.depth T = false ∧ ∀ fs, P.underlying T = some (.struct fs) → ∀ (j : Nat) (f : Field), fs[j]? = some f → f.name ≠ "_"
def TabOk (P : Program) (tab : Tab) : Prop := ∀ T i, tab.ti T = some i → TiOk P tab T i
structure FnOk (P : Program) (T : TypeId) : Prop where
 info : ∃ ti, P.info? T = some ti ∧ ti.size = 1 ∧ ti.zero = some .nilFunc
 kind : ∃ ps rs v, P.underlying T = some (.func ps rs v)
structure TabOk' (P : Program) (tab : Tab) : Prop where
 data : TabOk P tab
 fn : ∀ T, tab.find T = some .fn → FnOk P T
section
variable {P : Program} {g0 : Gh} {w0 : Fra} {N : Nat} {s : St} {g : Gh} {a : Act} {w : World} {α : Type} {r : α} {Q : Exit → Act → World → Prop}
def Next (g0 : Gh) (w0 : Fra) (N : Nat) (K : St → Option α) (r : α) (a : Act) (w : World) : Prop := ∃ s g, R g0 w0 N s g a w ∧ K s = some r
theorem wp_val {o : Oper} {next : Act → World → Prop} {v : Value} {w' : World} (h : (execOp a.eval o).run P w = .ok (.value v) w') (k : next (a.put o.dst v) w') : o.wp P a w next Q := by
 unfold Oper.wp; rw [h]; exact k
theorem wp_skip' {o : Oper} {next : Act → World → Prop} {w' : World} (h : (execOp a.eval o).run P w = .ok .skip w') (k : next (a.put o.dst undef) w') : o.wp P a w next Q := by
 unfold Oper.wp; rw [h]; exact k
theorem guardB_some {b : Bool} {x : Option α} (h : guardB b x = some r) : b = true ∧ x = some r := by
 cases b <;> simp [guardB] at h; exact ⟨rfl, h⟩
theorem wp_set (h : R g0 w0 N s g a w) {o : Oper} (hd : ∀ t, o.dst = some t → t < N) {K : St → Option α} {v : TV} {mv : Value} (hk : K (s.setD o.dst v) = some r) (hv : TRep g w s.sig v mv)
  (hr : (execOp a.eval o).run P w = .ok (.value mv) w) : o.wp P a w (Next g0 w0 N K r) Q :=
 wp_val hr ⟨_, _, h.setD hd hv, hk⟩
theorem arith_sound {sg : Id → Option Sig} {op : BinOp} {k : IntKind} {x y : Int} {K : Val → Option α} (t : TypeId) (h : arith op k x y K = some r) :
  ∃ v mv, K v = some r ∧ (∀ w, (Go.binOp op t (.int k x) (.int k y)).run P w = .ok mv w) ∧ TRep g w sg (.val v) mv := by
 cases op <;> simp only [arith] at h
 case add => exact ⟨_, _, h, by simp [Go.binOp, Op.intArith], TRep.mkInt _ _⟩
 case sub => exact ⟨_, _, h, by simp [Go.binOp, Op.intArith], TRep.mkInt _ _⟩
 case mul => exact ⟨_, _, h, by simp [Go.binOp, Op.intArith], TRep.mkInt _ _⟩
 case quo =>
  obtain ⟨h1, h2⟩ := guardB_some h
  have : ¬ y = 0 := by simpa using h1
  exact ⟨_, _, h2, by simp [Go.binOp, Op.intDiv, this], TRep.mkInt _ _⟩
 case rem =>
  obtain ⟨h1, h2⟩ := guardB_some h
  have : ¬ y = 0 := by simpa using h1
  exact ⟨_, _, h2, by simp [Go.binOp, Op.intDiv, this], TRep.mkInt _ _⟩
 case and => exact ⟨_, _, h, by simp [Go.binOp, Op.intBits], TRep.mkInt _ _⟩
 case or => exact ⟨_, _, h, by simp [Go.binOp, Op.intBits], TRep.mkInt _ _⟩
 case xor => exact ⟨_, _, h, by simp [Go.binOp, Op.intBits], TRep.mkInt _ _⟩
 case andNot => exact ⟨_, _, h, by simp [Go.binOp, Op.intBits], TRep.mkInt _ _⟩
 case eql => exact ⟨_, _, h, by simp [Go.binOp, Op.intCmp], TRep.mkBool _⟩
 case neq => exact ⟨_, _, h, by simp [Go.binOp, Op.intCmp], TRep.mkBool _⟩
 case lss => exact ⟨_, _, h, by simp [Go.binOp, Op.intCmp], TRep.mkBool _⟩
 case leq => exact ⟨_, _, h, by simp [Go.binOp, Op.intCmp], TRep.mkBool _⟩
 case gtr => exact ⟨_, _, h, by simp [Go.binOp, Op.intCmp], TRep.mkBool _⟩
 case geq => exact ⟨_, _, h, by simp [Go.binOp, Op.intCmp], TRep.mkBool _⟩
 all_goals cases h
theorem shift_sound {sg : Id → Option Sig} {op : BinOp} {k j : IntKind} {x y : Int} {K : Val → Option α} (t : TypeId) (h : shiftOp op k x y K = some r) :
  ∃ v mv, K v = some r ∧ (∀ w, (Go.binOp op t (.int k x) (.int j y)).run P w = .ok mv w) ∧ TRep g w sg (.val v) mv := by
 cases op <;> simp only [shiftOp] at h
 case shl =>
  obtain ⟨h1, h2⟩ := guardB_some h
  have : ¬ y < 0 := by simpa using h1
  exact ⟨_, _, h2, by simp [Go.binOp, Op.shift, this], TRep.mkInt _ _⟩
 case shr =>
  obtain ⟨h1, h2⟩ := guardB_some h
  have : ¬ y < 0 := by simpa using h1
  exact ⟨_, _, h2, by simp [Go.binOp, Op.shift, this], TRep.mkInt _ _⟩
 all_goals cases h
theorem str_sound {sg : Id → Option Sig} {op : BinOp} {x y : ByteArray} {K : Val → Option α} (t : TypeId) (h : strOp op x y K = some r) :
  ∃ v mv, K v = some r ∧ (∀ w, (Go.binOp op t (.string x) (.string y)).run P w = .ok mv w) ∧ TRep g w sg (.val v) mv := by
 cases op <;> simp only [strOp] at h
 case add =>
  obtain ⟨h1, h2⟩ := guardB_some h
  have h1 : x.size + y.size ≤ 9223372036854775807 := by simpa using h1
  have : ¬ ((x.size + y.size : Nat) : Int) > IntKind.i64.max := by
   have : IntKind.i64.max = 9223372036854775807 := by decide
   rw [this]; omega
  exact ⟨_, _, h2, by intro w; simp only [Go.binOp, Op.stringOp, if_neg this]; rfl, TRep.mkStr _⟩
 case eql => exact ⟨_, _, h, by simp [Go.binOp, Op.stringOp], TRep.mkBool _⟩
 case neq => exact ⟨_, _, h, by simp [Go.binOp, Op.stringOp], TRep.mkBool _⟩
 case lss => exact ⟨_, _, h, by simp [Go.binOp, Op.stringOp], TRep.mkBool _⟩
 case leq => exact ⟨_, _, h, by simp [Go.binOp, Op.stringOp], TRep.mkBool _⟩
 case gtr => exact ⟨_, _, h, by simp [Go.binOp, Op.stringOp], TRep.mkBool _⟩
 case geq => exact ⟨_, _, h, by simp [Go.binOp, Op.stringOp], TRep.mkBool _⟩
 all_goals cases h
theorem un_sound {sg : Id → Option Sig} {op : UnOp} {A : TV} {mv : Value} {K : Val → Option α} (h : unV op A K = some r) (ha : TRep g w sg A mv) :
  ∃ v mv', K v = some r ∧ (∀ w, (Op.unary op mv).run P w = .ok mv' w) ∧ TRep g w sg (.val v) mv' := by
 unfold unV at h
 split at h
 · rw [ha.bool]; exact ⟨_, _, h, by simp [Op.unary], TRep.mkBool _⟩
 · rw [ha.int]; exact ⟨_, _, h, by simp [Op.unary, Op.intArith], TRep.mkInt _ _⟩
 · rw [ha.int]; exact ⟨_, _, h, by simp [Op.unary, Op.intBits], TRep.mkInt _ _⟩
 · cases h
theorem SRep.agg {t : Ty} {x : t.den} {cs : List Value} {xs : Array Value} (h : SRep g w t x cs) (e : wrap t cs = .agg xs) : t.isProd = true := by
 cases t <;> simp only [SRep] at h <;> simp only [wrap] at e
 · subst h; simp at e
 · subst h; simp at e
 · subst h; simp at e
 · rcases h with ⟨h, _⟩ | ⟨_, _, h, _⟩ <;> subst h <;> simp at e
 · rfl
 · subst h; simp [undef] at e
theorem SRep.noIface {t : Ty} {x : t.den} {cs : List Value} (h : SRep g w t x cs) : wrap t cs ≠ .nilIface := by
 cases t <;> simp only [SRep] at h <;> simp only [wrap]
 · subst h; simp
 · subst h; simp
 · subst h; simp
 · rcases h with ⟨h, _⟩ | ⟨_, _, h, _⟩ <;> subst h <;> simp
 · simp
 · subst h; simp [undef]
theorem part_run {tab : Tab} (ht : TabOk P tab) {E : TypeId} {ie : TI} (hE : tab.ti E = some ie) {c ds d : List Value} (hl : ds.length = ie.ty.size) {off : Nat} (ho : off = c.length) : (part E (c ++ ds ++ d).toArray off).run P w = .ok (wrap ie.ty ds) w := by
 obtain ⟨ti, h1, h2, h3⟩ := (ht E ie hE).info
 have hk := (ht E ie hE).kind
 subst ho
 have one : ie.ty.size = 1 → ∀ {k : List Value → Sem Value}, (c ++ ds ++ d).toArray[c.length]? = some (ds.headD undef) := by
  intro e k
  rw [e] at hl
  cases ds with
  | nil => simp at hl
  | cons v ds => simp
 have sz : (Go.sizeOf E).run P w = .ok ie.ty.size w := by simp [Go.sizeOf, typeInfo, h1, h2]
 cases hty : ie.ty with
 | int k => simp only [hty] at hk; simp only [part, isAgg, Sem.run_bind, run_underlying hk, Result.andThen_ok, Sem.run_pure, Bool.false_eq_true, if_false, one (by rw [hty]; rfl) (k := fun _ => pure undef), wrap]
 | bool => simp only [hty] at hk; simp only [part, isAgg, Sem.run_bind, run_underlying hk, Result.andThen_ok, Sem.run_pure, Bool.false_eq_true, if_false, one (by rw [hty]; rfl) (k := fun _ => pure undef), wrap]
 | str => simp only [hty] at hk; simp only [part, isAgg, Sem.run_bind, run_underlying hk, Result.andThen_ok, Sem.run_pure, Bool.false_eq_true, if_false, one (by rw [hty]; rfl) (k := fun _ => pure undef), wrap]
 | list e => simp only [hty] at hk; obtain ⟨F, ie', tE, hk, _⟩ := hk; simp only [part, isAgg, Sem.run_bind, run_underlying hk, Result.andThen_ok, Sem.run_pure, Bool.false_eq_true, if_false, one (by rw [hty]; rfl) (k := fun _ => pure undef), wrap]
 | unit => simp only [hty] at hk
 | prod x y =>
  simp only [hty] at hk
  have hx : ((c ++ ds ++ d).toArray.extract c.length (c.length + ie.ty.size)) = ds.toArray := by
   rw [← hl]
   apply Array.ext'
   simp
  rcases hk with ⟨_, _, E, ie, hk, _⟩ | ⟨_, fs, hk, _⟩ <;>
  simp only [part, isAgg, Sem.run_bind, run_underlying hk, Result.andThen_ok, Sem.run_pure, if_true, sz, hx, wrap]
theorem eqTy_prod {a b : Ty} {x y : (Ty.prod a b).den} {r : Bool} (h : eqTy (.prod a b) x y = some r) : ∃ p q, eqTy a x.1 y.1 = some p ∧ eqTy b x.2 y.2 = some q ∧ r = (p && q) := by
 simp only [eqTy] at h
 split at h
 · rename_i p q h1 h2
   exact ⟨p, q, h1, h2, by injection h with h; exact h.symm⟩
 · cases h
theorem eqFields_sound {tab : Tab} (ht : TabOk P tab) {d : Nat}
  (ih : ∀ (t : Ty) (T : TypeId) (i : TI), tab.ti T = some i → i.ty = t → t.deep < d → ∀ (x y : t.den) (cs ds : List Value) (b : Bool), SRep g w t x cs → SRep g w t y ds → eqTy t x y = some b → (Op.equalIn d T (wrap t cs) (wrap t ds)).run P w = .ok b w) :
  ∀ (fl : List Field) (n : Nat) (t : Ty) (x y : t.den) (c c' cs ds : List Value) (off : Nat) (b : Bool), fl.length = n → 0 < n → c.length = off → c'.length = off →
   (∀ (j : Nat) (f : Field), fl[j]? = some f → f.name ≠ "_" ∧ ∃ fi, tab.ti f.type = some fi ∧ compTy n j t = some fi.ty ∧ f.offset = off + compOff n j t) → (t.deep < d + (if n = 1 then 0 else 1)) →
   SRep g w t x cs → SRep g w t y ds → eqTy t x y = some b → (Op.eqFields d (c ++ cs).toArray (c' ++ ds).toArray fl).run P w = .ok b w
 | [], n, _, _, _, _, _, _, _, _, _, h1, h2, _, _, _, _, _, _, _ => by simp at h1; omega
 | [f], n, t, x, y, c, c', cs, ds, off, b, h1, h2, h3, h4, hf, hd, sx, sy, he => by
  obtain rfl : n = 1 := by simpa using h1.symm
  obtain ⟨hn, fi, k1, k2, k3⟩ := hf 0 f rfl
  simp only [compTy, Option.some.injEq] at k2
  have hoff : compOff 1 0 t = 0 := rfl
  rw [hoff, Nat.add_zero] at k3
  have p1 := part_run (w := w) ht k1 (c := c) (ds := cs) (d := []) (by rw [sx.len, k2]) (off := f.offset) (by omega)
  have p2 := part_run (w := w) ht k1 (c := c') (ds := ds) (d := []) (by rw [sy.len, k2]) (off := f.offset) (by omega)
  simp only [List.append_nil] at p1 p2
  rw [← k2] at p1 p2
  simp only [Op.eqFields, if_pos hn, Sem.run_bind, p1, p2, Result.andThen_ok, ih t f.type fi k1 k2.symm (by simpa using hd) x y cs ds b sx sy he]
  cases b <;> simp
 | f :: f' :: fl, n, t, x, y, c, c', cs, ds, off, b, h1, h2, h3, h4, hf, hd, sx, sy, he => by
  obtain ⟨m, rfl⟩ : ∃ m, n = m + 2 := ⟨fl.length, by simpa using h1.symm⟩
  obtain ⟨hn, fi, k1, k2, k3⟩ := hf 0 f rfl
  cases t <;> simp only [compTy] at k2 <;> try (cases k2; done)
  rename_i ta tb
  simp only [Option.some.injEq] at k2
  obtain ⟨ca, cb, rfl, sa, sb⟩ := sx
  obtain ⟨da, db, rfl, ta', tb'⟩ := sy
  obtain ⟨p, q, e1, e2, rfl⟩ := eqTy_prod he
  have hoff : compOff (m + 2) 0 (.prod ta tb) = 0 := rfl
  rw [hoff, Nat.add_zero] at k3
  have p1 := part_run (w := w) ht k1 (c := c) (ds := ca) (d := cb) (by rw [sa.len, k2]) (off := f.offset) (by omega)
  have p2 := part_run (w := w) ht k1 (c := c') (ds := da) (d := db) (by rw [ta'.len, k2]) (off := f.offset) (by omega)
  rw [← k2, List.append_assoc] at p1 p2
  have hd' : ta.deep < d ∧ tb.deep < d := by simp only [Ty.deep] at hd; simp at hd; omega
  have hr := eqFields_sound ht ih (f' :: fl) (m + 1) tb x.2 y.2 (c ++ ca) (c' ++ da) cb db (off + ta.size) q (by simpa using h1) (by omega) (by simp [h3, sa.len]) (by simp [h4, ta'.len])
   (fun j z hz => by
    obtain ⟨hn', fi', k1', k2', k3'⟩ := hf (j + 1) z (by simpa using hz)
    exact ⟨hn', fi', k1', by simpa [compTy] using k2', by rw [k3']; simp [compOff, Nat.add_assoc]⟩) (by omega) sb tb' e2
  simp only [List.append_assoc] at hr
  rw [Op.eqFields]
  simp only [if_pos hn, Sem.run_bind, p1, p2, Result.andThen_ok, ih ta f.type fi k1 k2.symm hd'.1 x.1 y.1 ca da p sa ta' e1]
  cases p
  · simp
  · simpa using hr
theorem equalIn_sound {tab : Tab} (ht : TabOk P tab) : ∀ (d : Nat) (t : Ty) (T : TypeId) (i : TI), tab.ti T = some i → i.ty = t → t.deep < d → ∀ (x y : t.den) (cs ds : List Value) (b : Bool), SRep g w t x cs → SRep g w t y ds → eqTy t x y = some b →
  (Op.equalIn d T (wrap t cs) (wrap t ds)).run P w = .ok b w
 | 0, _, _, _, _, _, h, _, _, _, _, _, _, _, _ => by omega
 | d + 1, t, T, i, hi, hty, hd, x, y, cs, ds, b, sx, sy, he => by
  have hk := (ht T i hi).kind
  have hq := (ht T i hi).eqs
  rw [hty] at hq
  cases t with
  | int k =>
   simp only [hty] at hk
   simp only [SRep] at sx sy; subst sx sy
   simp only [eqTy, Option.some.injEq] at he; subst he
   exact run_equalIn_int w d T k k x y hk
  | bool =>
   simp only [hty] at hk
   simp only [SRep] at sx sy; subst sx sy
   simp only [eqTy, Option.some.injEq] at he; subst he
   exact run_equalIn_bool' w d T x y hk
  | str =>
   simp only [hty] at hk
   simp only [SRep] at sx sy; subst sx sy
   simp only [eqTy, Option.some.injEq] at he; subst he
   exact run_equalIn_string w d T x y hk
  | list e => simp [eqTy] at he
  | unit => simp [eqTy] at he
  | prod ta tb =>
   simp only [hty] at hk
   obtain ⟨q1, q2, q3, q4⟩ := hq rfl
   simp only [wrap]
   rcases hk with ⟨_, _, E, ie, hu, hE, hia, rfl⟩ | ⟨_, fs, hu, hsz, hf⟩
   · obtain ⟨ti, hi1, hi2, hi3⟩ := (ht E ie hE).info
     have hc : P.cellsOf E = ie.ty.size := by
      have a1 := run_sizeOf (P := P) w hi1
      have a2 : (Go.sizeOf E).run P w = .ok ie.ty.size w := by simp [Go.sizeOf, typeInfo, hi1, hi2]
      rw [a1] at a2
      injection a2
     rw [run_equalIn_array w d _ _ hu hi1, hc]
     obtain ⟨ca, cb, rfl, sa, sb⟩ := sx
     obtain ⟨da, db, rfl, sa', sb'⟩ := sy
     obtain ⟨p, q, e1, e2, rfl⟩ := eqTy_prod he
     have hd' : tb.deep < d := by simp only [Ty.deep] at hd; omega
     have a1 := part_run (w := w) ht hE (c := []) (ds := ca) (d := cb) (by rw [sa.len, hia]) (off := 0 * ie.ty.size) (by simp)
     have a2 := part_run (w := w) ht hE (c := []) (ds := da) (d := db) (by rw [sa'.len, hia]) (off := 0 * ie.ty.size) (by simp)
     have b1 := part_run (w := w) ht hE (c := ca) (ds := cb) (d := []) (by rw [sb.len, hia]) (off := 1 * ie.ty.size) (by rw [sa.len, hia]; omega)
     have b2 := part_run (w := w) ht hE (c := da) (ds := db) (d := []) (by rw [sb'.len, hia]) (off := 1 * ie.ty.size) (by rw [sa'.len, hia]; omega)
     simp only [List.nil_append, List.append_nil] at a1 a2 b1 b2
     rw [hia] at a1 a2 b1 b2
     simp only [Nat.one_mul] at b1 b2
     have i1 := equalIn_sound ht d tb E ie hE hia hd' x.1 y.1 ca da p sa sa' e1
     have i2 := equalIn_sound ht d tb E ie hE hia hd' x.2 y.2 cb db q sb sb' e2
     have : List.range 2 = [0, 1] := rfl
     rw [this, hia]
     simp only [Op.eqItems, Sem.run_bind, Nat.one_mul, a1, a2, b1, b2, Result.andThen_ok, i1, i2]
     cases p <;> cases q <;> simp [b1, b2, i2]
   · have hff : P.fieldsOf T = fs := by simp [Program.fieldsOf, hu]
     rw [run_equalIn_struct w d T _ _ (by rw [hff]; exact hu) q2, hff]
     have h0 : 0 < i.arity := by
      cases e : i.arity with
      | zero =>
       exfalso
       obtain ⟨ti, z1, z2, z3⟩ := (ht T i hi).info
       have := (ht T i hi).arity
       rw [hty] at this
       simp [Ty.isProd] at this
       omega
      | succ n => omega
     exact eqFields_sound ht (fun t' T' i' a b c => equalIn_sound ht d t' T' i' a b c) fs.toList i.arity (.prod ta tb) x y [] [] cs ds 0 b (by simpa using hsz) h0 rfl rfl
      (fun j f hj => by
       have hj' : fs[j]? = some f := by simpa using hj
       obtain ⟨fi, k1, k2, k3⟩ := hf j f hj'
       refine ⟨q4 fs hu j f hj', fi, k1, k2, by rw [k3]; simp⟩) (by
        have := (ht T i hi).arity
        rw [hty] at this
        simp [Ty.isProd] at this
        split <;> omega) sx sy he
theorem eq_sound {tab : Tab} (ht : TabOk P tab) {T : TypeId} {i : TI} (hi : tab.ti T = some i) {x y : i.ty.den} {cs ds : List Value} {b : Bool} (hx : SRep g w i.ty x cs) (hy : SRep g w i.ty y ds) (h : eqTy i.ty x y = some b) :
  (Op.equal T (wrap i.ty cs) (wrap i.ty ds)).run P w = .ok b w ∧ (i.ty.isProd = true → P.eqGuardType P.depth T = false) := by
 refine ⟨equalIn_sound ht 10000 i.ty T i hi rfl ?_ x y cs ds b hx hy h, fun hp => ((ht T i hi).eqs hp).2.2.1⟩
 by_cases hp : i.ty.isProd = true
 · have := ((ht T i hi).eqs hp).1; omega
 · cases e : i.ty <;> simp [e, Ty.isProd] at hp <;> simp [Ty.deep]
theorem run_eqGuard {op : BinOp} {T : TypeId} {xo yo : Operand} {u v : Value} (h : ∀ x y, u = .agg x → v = .agg y → P.eqGuardType P.depth T = false) (h2 : u ≠ .nilIface) : (eqGuard op T xo yo u v).run P w = .ok () w := by
 unfold eqGuard
 split
 case h_3 => simp
 all_goals
  simp only [Bool.not_true, Bool.false_eq_true, if_false]
  split
  · exact absurd rfl h2
  · rename_i x y
    simp [h x y rfl rfl]
  · rfl
theorem bin_eq {T : TypeId} {t : Ty} {x y : t.den} {cs ds : List Value} {b : Bool} (hx : SRep g w t x cs) (hy : SRep g w t y ds) (h : eqTy t x y = some b) (hq : (Op.equal T (wrap t cs) (wrap t ds)).run P w = .ok b w) :
  (Go.binOp .eql T (wrap t cs) (wrap t ds)).run P w = .ok (.bool b) w ∧ (Go.binOp .neq T (wrap t cs) (wrap t ds)).run P w = .ok (.bool (!b)) w := by
 cases t with
 | int k =>
  simp only [SRep] at hx hy; subst hx hy
  simp only [eqTy, Option.some.injEq] at h; subst h
  exact ⟨by simp [wrap, Go.binOp, Op.intCmp], by simp [wrap, Go.binOp, Op.intCmp]; rfl⟩
 | bool =>
  simp only [SRep] at hx hy; subst hx hy
  simp only [wrap, List.headD_cons] at hq ⊢
  simp [Go.binOp, hq]
 | str =>
  simp only [SRep] at hx hy; subst hx hy
  simp only [eqTy, Option.some.injEq] at h; subst h
  simp [wrap, Go.binOp, Op.stringOp]
 | list e => simp [eqTy] at h
 | unit => simp [eqTy] at h
 | prod ta tb =>
  simp only [wrap] at hq ⊢
  simp [Go.binOp, hq]
theorem fn_sound {sg : Id → Option Sig} {T : TypeId} (hT : FnOk P T) {op : BinOp} {b : Bool} {mx my : Value} {xo yo : Operand} {K : Val → Option α} (h : fnCmp op b K = some r)
  (hm : (∃ f c d, mx = .func f c d ∧ my = .nilFunc ∧ b = false) ∨ (∃ f c d, my = .func f c d ∧ mx = .nilFunc ∧ b = false) ∨ (mx = .nilFunc ∧ my = .nilFunc ∧ b = true)) :
  ∃ v mv, K v = some r ∧ (∀ w, (do eqGuard op T xo yo mx my; Go.binOp op T mx my : Sem Value).run P w = .ok mv w) ∧ TRep g w sg (.val v) mv := by
 obtain ⟨ps, rs, vr, hu⟩ := hT.kind
 have hg : ∀ w, (eqGuard op T xo yo mx my).run P w = .ok () w := by
  intro w
  rcases hm with ⟨f, c, d, rfl, rfl, rfl⟩ | ⟨f, c, d, rfl, rfl, rfl⟩ | ⟨rfl, rfl, rfl⟩ <;> exact run_eqGuard (fun x y h => by cases h) (by simp)
 have aux : ∀ d w, (Op.equalIn (d + 1) T mx my).run P w = .ok b w := by
  rcases hm with ⟨f, c, d, rfl, rfl, rfl⟩ | ⟨f, c, d, rfl, rfl, rfl⟩ | ⟨rfl, rfl, rfl⟩ <;> intro d w <;> simp [Op.equalIn, run_underlying hu]
 have hq : ∀ w, (Op.equal T mx my).run P w = .ok b w := aux 9999
 have hb : (∀ w, (Go.binOp .eql T mx my).run P w = .ok (.bool b) w) ∧ (∀ w, (Go.binOp .neq T mx my).run P w = .ok (.bool (!b)) w) := by
  rcases hm with ⟨f, c, d, rfl, rfl, rfl⟩ | ⟨f, c, d, rfl, rfl, rfl⟩ | ⟨rfl, rfl, rfl⟩ <;> simp [Go.binOp, hq]
 simp only [Sem.run_bind, hg, Result.andThen_ok]
 unfold fnCmp at h
 split at h
 · exact ⟨_, _, h, hb.1, TRep.mkBool _⟩
 · exact ⟨_, _, h, hb.2, TRep.mkBool _⟩
 · cases h
theorem eqTy_lists : ∀ (t : Ty) (x y : t.den) {b : Bool}, eqTy t x y = some b → t.lists = false
 | .int _, _, _, _, _ => rfl
 | .bool, _, _, _, _ => rfl
 | .str, _, _, _, _ => rfl
 | .prod ta tb, x, y, b, h => by
  simp only [eqTy] at h
  split at h
  · rename_i p q h1 h2
    simp only [Ty.lists, eqTy_lists ta _ _ h1, eqTy_lists tb _ _ h2, Bool.or_self]
  · cases h
 | .list _, _, _, _, h => by simp [eqTy] at h
 | .unit, _, _, _, h => by simp [eqTy] at h
theorem SRep.bare' {g g' : Gh} {w w' : World} : ∀ (t : Ty) (x : t.den) (cs : List Value), t.lists = false → SRep g w t x cs → SRep g' w' t x cs
 | .int _, _, _, _, h => h
 | .bool, _, _, _, h => h
 | .str, _, _, _, h => h
 | .unit, _, _, _, h => h
 | .prod a b, x, cs, hn, ⟨c, d, e, h1, h2⟩ => by
  simp only [Ty.lists, Bool.or_eq_false_iff] at hn
  exact ⟨c, d, e, SRep.bare' a x.1 c hn.1 h1, SRep.bare' b x.2 d hn.2 h2⟩
 | .list t, xs, cs, hn, h => by simp [Ty.lists] at hn
theorem bin_sound {tab : Tab} (ht : TabOk' P tab) {sg : Id → Option Sig} {T : TypeId} {op : BinOp} {A B : TV} {mx my : Value} {xo yo : Operand} {K : Val → Option α} (h : binV tab T op A B K = some r) (ha : TRep g w sg A mx) (hb : TRep g w sg B my) :
  ∃ v mv, K v = some r ∧ (∀ w, (do eqGuard op T xo yo mx my; Go.binOp op T mx my : Sem Value).run P w = .ok mv w) ∧ TRep g w sg (.val v) mv := by
 unfold binV at h
 split at h
 · rename_i k x j y
   rw [ha.int, hb.int]
   simp only [Sem.run_bind, run_eqGuard (P := P) (op := op) (T := T) (xo := xo) (yo := yo) (u := .int k x) (v := .int j y) (by simp) (by simp), Result.andThen_ok]
   cases hs : isShift op
   · simp only [hs, cond_false] at h
     split at h
     · rename_i e _
       subst e
       exact arith_sound T h
     · cases h
   · simp only [hs, cond_true] at h
     exact shift_sound T h
 · rename_i x y
   rw [ha.str, hb.str]
   simp only [Sem.run_bind, run_eqGuard (P := P) (op := op) (T := T) (xo := xo) (yo := yo) (u := .string x) (v := .string y) (by simp) (by simp), Result.andThen_ok]
   exact str_sound T h
 · rename_i v v' _ _
   split at h
   · rename_i i hi
     split at h
     · rename_i x y hx hy
       split at h
       · rename_i b hb'
         have e1 := castTo_some hx
         have e2 := castTo_some hy
         subst e1 e2
         obtain ⟨cs, s1, rfl⟩ := ha.val
         obtain ⟨ds, s2, rfl⟩ := hb.val
         have hl := eqTy_lists _ _ _ hb'
         have all : ∀ w, (Op.equal T (wrap i.ty cs) (wrap i.ty ds)).run P w = .ok b w ∧ (i.ty.isProd = true → P.eqGuardType P.depth T = false) := fun w2 => eq_sound (g := g) (w := w2) ht.data hi (SRep.bare' _ _ _ hl s1) (SRep.bare' _ _ _ hl s2) hb'
         have hg : ∀ w, (eqGuard op T xo yo (wrap i.ty cs) (wrap i.ty ds)).run P w = .ok () w := fun w2 =>
          run_eqGuard (fun x y ex ey => (all w2).2 (s1.agg ex)) s1.noIface
         have q3 : ∀ w, _ := fun w2 => bin_eq (P := P) (T := T) (g := g) (w := w2) (SRep.bare' _ _ _ hl s1) (SRep.bare' _ _ _ hl s2) hb' (all w2).1
         simp only [Sem.run_bind, hg, Result.andThen_ok]
         split at h
         · exact ⟨_, _, h, fun w2 => (q3 w2).1, TRep.mkBool _⟩
         · exact ⟨_, _, h, fun w2 => (q3 w2).2, TRep.mkBool _⟩
         · cases h
       · cases h
     · cases h
   · cases h
 · rename_i f
   split at h
   · rename_i hT
     exact fn_sound (ht.fn T hT) h (.inl ⟨_, _, _, ha, hb, rfl⟩)
   · cases h
 · rename_i f
   split at h
   · rename_i hT
     exact fn_sound (ht.fn T hT) h (.inr (.inl ⟨_, _, _, hb, ha, rfl⟩))
   · cases h
 · split at h
   · rename_i hT
     exact fn_sound (ht.fn T hT) h (.inr (.inr ⟨ha, hb, rfl⟩))
   · cases h
 · cases h
end
end Go.Ve
namespace Go.Ve
open Go Go.RowKit
section
variable {P : Program} {g0 : Gh} {w0 : Fra} {N : Nat} {s : St} {g : Gh} {a : Act} {w : World} {α : Type} {r : α} {Q : Exit → Act → World → Prop}
theorem get_ty : ∀ (p : List Step) (m : Mask) (t : Ty) (x : t.den) (m' : Mask) (v : Val), get p m ⟨t, x⟩ = some (m', v) → tyAt t p = some v.t
 | [], m, t, x, m', v, h => by simp only [get, Option.some.injEq, Prod.mk.injEq] at h; obtain ⟨_, rfl⟩ := h; rfl
 | .fst :: p, m, t, x, m', v, h => by
  cases t <;> simp only [get] at h <;> try (cases h)
  simp only [tyAt, stepTy]; exact get_ty p _ _ _ _ _ h
 | .snd :: p, m, t, x, m', v, h => by
  cases t <;> simp only [get] at h <;> try (cases h)
  simp only [tyAt, stepTy]; exact get_ty p _ _ _ _ _ h
 | .idx i :: p, m, t, x, m', v, h => by
  cases t <;> cases m <;> simp only [get] at h <;> try (cases h)
  simp only [tyAt, stepTy]; exact get_ty p _ _ _ _ _ h
 | .arr i :: p, m, t, x, m', v, h => by
  cases p with
  | cons q p => cases t <;> cases m <;> simp [get] at h
  | nil =>
   cases hw : arrGet i ⟨t, x⟩ with
   | none => cases m <;> simp [get, hw] at h
   | some u =>
    have h' : some (Mask.shr, u) = some (m', v) := by cases m <;> simpa [get, hw] using h
    obtain ⟨_, rfl⟩ := Prod.mk.inj (Option.some.inj h')
    obtain ⟨b, e, h1, h2, h3⟩ := arrGet_some hw
    subst h3
    cases t <;> simp only [tyAt, stepTy, h2]
theorem TC.mkpr {sg : Id → Option Sig} {A B : TV} {ta tb : Ty} {c d : List Value} (h1 : TC g w sg A ta c) (h2 : TC g w sg B tb d) (l1 : c.length = ta.size) (l2 : d.length = tb.size) : TC g w sg (TV.mkpr A B) (.prod ta tb) (c ++ d) := by
 unfold TV.mkpr
 split
 · obtain ⟨rfl, h1⟩ := h1
   obtain ⟨rfl, h2⟩ := h2
   exact ⟨rfl, c, d, rfl, h1, h2⟩
 · exact ⟨c, d, rfl, l1, l2, h1, h2⟩
theorem TC.rep {sg : Id → Option Sig} : ∀ {A : TV} {t : Ty} {cs : List Value}, TC g w sg A t cs → TRep g w sg A (wrap t cs)
 | .dead, _, _, _ => trivial
 | .nil, .list t, cs, h => by simp only [TC] at h; subst h; rfl
 | .val v, t, cs, ⟨h1, h2⟩ => by subst h1; exact ⟨cs, h2, rfl⟩
 | .ref id p, t, cs, h => ⟨t, cs, h, rfl⟩
 | .sub id p lo hi, t, cs, h => ⟨t, cs, h, rfl⟩
 | .pr a b, t, cs, h => ⟨t, cs, h, rfl⟩
 | .addr _ _, t, _, h => by cases t <;> exact h.elim
 | .saddr _, t, _, h => by cases t <;> exact h.elim
 | .fn _, t, _, h => by cases t <;> exact h.elim
 | .nilfn, t, _, h => by cases t <;> exact h.elim
 | .tup _, t, _, h => by cases t <;> exact h.elim
 | .tad _, t, _, h => by cases t <;> exact h.elim
theorem TC.len {sg : Id → Option Sig} : ∀ {A : TV} {t : Ty} {cs : List Value}, TC g w sg A t cs → cs.length = t.size
 | .dead, t, _, h => by cases t <;> exact h
 | .nil, .list t, cs, h => by simp only [TC] at h; subst h; rfl
 | .val v, t, cs, ⟨h1, h2⟩ => by subst h1; exact h2.len
 | .ref id p, .list t, cs, h => by rw [h.1]; rfl
 | .sub id p lo hi, .list t, cs, ⟨_, _, h⟩ => by rcases h with ⟨_, _, h⟩ | ⟨_, _, _, _, _, _, _, _, _, _, _, _, h⟩ <;> rw [h] <;> rfl
 | .pr a b, .prod ta tb, cs, ⟨c, d, e, l1, l2, _, _⟩ => by rw [e, List.length_append, l1, l2]; rfl
 | .addr _ _, t, _, h => by cases t <;> exact h.elim
 | .saddr _, t, _, h => by cases t <;> exact h.elim
 | .fn _, t, _, h => by cases t <;> exact h.elim
 | .nilfn, t, _, h => by cases t <;> exact h.elim
 | .tup _, t, _, h => by cases t <;> exact h.elim
 | .tad _, t, _, h => by cases t <;> exact h.elim
theorem tyAt_app : ∀ (p : List Step) (t u : Ty) (q : List Step), tyAt t p = some u → tyAt t (p ++ q) = tyAt u q
 | [], t, u, q, h => by simp only [tyAt, Option.some.injEq] at h; subst h; rfl
 | s :: p, t, u, q, h => by
  simp only [tyAt, List.cons_append] at h ⊢
  cases e : stepTy t s with
  | none => simp [e] at h
  | some v => simp only [e] at h ⊢; exact tyAt_app p v u q h
theorem AddrOf.app {id : RId} : ∀ (p : List Step) (t u : Ty) (pre q : List Step) (a b c : Addr), noArr p = true → AddrOf g id t pre p a b → tyAt t p = some u → AddrOf g id u (pre ++ p) q b c → AddrOf g id t pre (p ++ q) a c
 | [], t, u, pre, q, a, b, c, _, h, ht, k => by
  simp only [AddrOf] at h
  simp only [tyAt, Option.some.injEq] at ht
  subst h ht
  simpa using k
 | .fst :: p, t, u, pre, q, a, b, c, hn, h, ht, k => by
  cases t <;> simp only [AddrOf] at h
  simp only [List.cons_append, AddrOf]
  exact AddrOf.app p _ u _ q a b c hn h (by simpa [tyAt, stepTy] using ht) (by simpa using k)
 | .snd :: p, t, u, pre, q, a, b, c, hn, h, ht, k => by
  cases t <;> simp only [AddrOf] at h
  simp only [List.cons_append, AddrOf]
  exact AddrOf.app p _ u _ q _ b c hn h (by simpa [tyAt, stepTy] using ht) (by simpa using k)
 | .idx i :: p, t, u, pre, q, a, b, c, hn, h, ht, k => by
  cases t <;> simp only [AddrOf] at h
  obtain ⟨hd, len, cap, e1, e2, e3, e4⟩ := h
  simp only [List.cons_append, AddrOf]
  exact ⟨hd, len, cap, e1, e2, e3, AddrOf.app p _ u _ q _ b c hn e4 (by simpa [tyAt, stepTy] using ht) (by simpa using k)⟩
 | .arr i :: p, t, u, pre, q, a, b, c, hn, h, ht, k => by simp [noArr] at hn
theorem AddrRoot.app {id : Id} {s : Sig} {p q : List Step} {u : Ty} {b c : Addr} (hn : noArr p = true) (h : AddrRoot g id s p b) (ht : tyAt s.ty p = some u) (k : AddrOf g (some id) u p q b c) : AddrRoot g id s (p ++ q) c := by
 cases s with
 | vec t => exact ⟨by simp [h.1], AddrOf.app p _ u [] q _ b c hn h.2 ht (by simpa using k)⟩
 | box t => exact AddrOf.app p _ u [] q _ b c hn h ht (by simpa using k)
 | fbox =>
  obtain ⟨rfl, rfl⟩ := h
  simp only [Sig.ty, tyAt, Option.some.injEq] at ht
  subst ht
  cases q with
  | nil => simp only [AddrOf] at k; exact ⟨rfl, k⟩
  | cons s q => cases s <;> simp [AddrOf, arrEl] at k
theorem tyAt_plain : ∀ (p : List Step) (t u : Ty), t.lists = false → tyAt t p = some u → u.lists = false
 | [], t, u, h, e => by simp only [tyAt, Option.some.injEq] at e; subst e; exact h
 | s :: p, t, u, h, e => by
  simp only [tyAt] at e
  split at e
  · rename_i v hv
    refine tyAt_plain p v u ?_ e
    cases s with
    | fst => cases t <;> simp only [stepTy, Option.some.injEq] at hv <;> try (cases hv)
             simp only [Ty.lists, Bool.or_eq_false_iff] at h; exact h.1
    | snd => cases t <;> simp only [stepTy, Option.some.injEq] at hv <;> try (cases hv)
             simp only [Ty.lists, Bool.or_eq_false_iff] at h; exact h.2
    | idx i => cases t <;> simp only [stepTy, Option.some.injEq] at hv <;> try (cases hv)
               simp [Ty.lists] at h
    | arr i =>
     have : arrEl t = some v := by cases t <;> simpa only [stepTy] using hv
     exact (arrEl_some this).2
  · cases e
theorem lists_noArr : ∀ (p : List Step) (t u : Ty), tyAt t p = some u → u.lists = true → noArr p = true
 | [], _, _, _, _ => rfl
 | s :: p, t, u, e, h => by
  simp only [tyAt] at e
  split at e
  · rename_i v hv
    cases s with
    | fst => exact lists_noArr p v u e h
    | snd => exact lists_noArr p v u e h
    | idx i => exact lists_noArr p v u e h
    | arr i =>
     have : arrEl t = some v := by cases t <;> simpa only [stepTy] using hv
     have := tyAt_plain p v u (arrEl_some this).2 e
     rw [this] at h
     cases h
  · cases e
theorem view_sound {sg : Id → Option Sig} {id : Id} : ∀ (t : Ty) (m : Mask) (p : List Step) (x : t.den) (cs : List Value), (∀ s, sg id = some s → tyAt s.ty p = some t) → (∀ s, sg id = some s → t.lists = true → ∃ c, AddrRoot g id s p c) →
  ORep g w none (some id) t m p x cs → TC g w sg (view id p m t x) t cs
 | .list t, .own m, p, xs, cs, ht, ha, h => by
  rcases h with ⟨h, _⟩ | ⟨_, h, _⟩
  · cases h
  · exact ⟨h, fun s hs => ⟨ht s hs, .inr (ha s hs rfl)⟩⟩
 | .prod a b, .prod ma mb, p, x, cs, ht, ha, ⟨c, d, e, h1, h2⟩ => by
  subst e
  refine TC.mkpr (view_sound a ma _ x.1 c (fun s hs => ?_) (fun s hs hl => ?_) h1) (view_sound b mb _ x.2 d (fun s hs => ?_) (fun s hs hl => ?_) h2) h1.len h2.len
  · rw [tyAt_app _ _ _ _ (ht s hs)]; rfl
  · obtain ⟨c, hc⟩ := ha s hs (by simp [Ty.lists, hl])
    exact ⟨c, hc.app (lists_noArr _ _ _ (ht s hs) (by simp [Ty.lists, hl])) (ht s hs) (by simp [AddrOf])⟩
  · rw [tyAt_app _ _ _ _ (ht s hs)]; rfl
  · obtain ⟨c, hc⟩ := ha s hs (by simp [Ty.lists, hl])
    exact ⟨c.add a.size, hc.app (lists_noArr _ _ _ (ht s hs) (by simp [Ty.lists, hl])) (ht s hs) (by simp [AddrOf])⟩
 | .list t, .shr, p, xs, cs, _, _, h => ⟨rfl, h⟩
 | .list t, .prod _ _, p, xs, cs, _, _, h => ⟨rfl, h⟩
 | .prod a b, .shr, p, x, cs, _, _, h => ⟨rfl, h⟩
 | .prod a b, .own _, p, x, cs, _, _, h => ⟨rfl, h⟩
 | .int k, m, p, x, cs, _, _, h => by cases m <;> exact ⟨rfl, h⟩
 | .bool, m, p, x, cs, _, _, h => by cases m <;> exact ⟨rfl, h⟩
 | .str, m, p, x, cs, _, _, h => by cases m <;> exact ⟨rfl, h⟩
 | .unit, m, p, x, cs, _, _, h => by cases m <;> exact ⟨rfl, h⟩
theorem R.place (h : R g0 w0 N s g a w) (hh : s.hole = none) {id : Id} {p : List Step} {m : Mask} {v : Val} (hat : s.at id p = some (m, v)) {ad : Addr} (hr : ∀ sg, s.sig id = some sg → AddrRoot g id sg p ad) :
  ad.spot = none ∧ (∃ c e, w.heap[ad.block]? = some (.cells c e (0, 0))) ∧ (∃ q0, g.own ad.block = some (some id, q0) ∧ ∀ q, q0 = some q → ∃ r, p = q ++ r ∧ r ≠ []) ∧
  ∃ ds, cellsAt w ad ds ∧ ORep g w none (some id) v.t m p v.x ds ∧ ∀ sg, s.sig id = some sg → tyAt sg.ty p = some v.t := by
 unfold St.at at hat
 cases ho : s.obj id with
 | none => simp [ho] at hat
 | some o =>
  simp only [ho] at hat
  have hob := h.objs id o ho
  rw [St.hl, hh] at hob
  have hr := hr o.sig (by simp [St.sig, ho])
  cases o with
  | fbox f => simp [Ob.root] at hat
  | box mb vb =>
   simp only [Ob.root] at hat
   obtain ⟨cs, c, e, h1, h2, h3, h4, h5⟩ := hob
   simp only [Ob.sig, AddrRoot] at hr
   obtain ⟨r1, r2, r3, ds, r4, r5⟩ := focus p _ _ [] _ cs _ ad m v Clear.none h1 ⟨c, e, h3⟩ h5 h4 hr hat
   refine ⟨r1, r2, ?_, ds, r4, by simpa using r5, fun sg hs => ?_⟩
   · rcases r3 with r3 | ⟨q0, r3, r, e1, e2⟩
     · exact ⟨none, by rw [r3, h2], fun q e => by cases e⟩
     · exact ⟨some q0, by simpa using r3, fun q e => by injection e with e; subst e; exact ⟨r, e1, e2⟩⟩
   · simp only [St.sig, ho, Option.map_some, Option.some.injEq, Ob.sig] at hs
     subst hs
     exact get_ty p _ _ _ _ _ hat
  | vec mb t xs =>
   simp only [Ob.root] at hat
   obtain ⟨hp, hr⟩ := hr
   cases p with
   | nil => exact absurd rfl hp
   | cons q p =>
    have hor : ORep g w none (some id) (.list t) (.own mb) [] xs [g.hdr (some id) []] := .inr ⟨by simp, rfl, hob⟩
    cases q with
    | idx i =>
     simp only [AddrOf, List.nil_append] at hr
     obtain ⟨hd, len, cap, e1, e2, e3, e4⟩ := hr
     simp only [get] at hat
     rcases hob with ⟨h3, _⟩ | ⟨a', cap', c, e, h4, h5, h6, h7, h8, h9, h10, h11⟩
     · rw [h3] at e1; cases e1
     · rw [h4] at e1
       obtain ⟨rfl, rfl, rfl⟩ : a' = hd ∧ List.length xs = len ∧ cap' = cap := by
        injection e1 with e1 e2 e3; injection e1 with e1; exact ⟨e1, e2, e3⟩
       obtain ⟨ds, d1, hi, d2⟩ := h11 i e3
       have hx : (xs : List t.den).getD i t.zero = xs[i] := by simp [List.getD, hi]
       rw [hx] at hat
       obtain ⟨r1, r2, r3, fs, r4, r5⟩ := focus p t mb [.idx i] _ ds _ ad m v Clear.none (add_spot e2 _) (by rw [add_block]; exact ⟨c, e, h7⟩) d2 d1 e4 hat
       rw [add_block, h6] at r3
       refine ⟨r1, r2, ?_, fs, r4, by simpa using r5, fun sg hs => ?_⟩
       · rcases r3 with r3 | ⟨q0, r3, r, e1, e2⟩
         · exact ⟨some [], r3, fun q e => by injection e with e; subst e; exact ⟨_, rfl, by simp⟩⟩
         · exact ⟨some (.idx i :: q0), by simpa using r3, fun q e => by injection e with e; subst e; exact ⟨r, by simp [e1], e2⟩⟩
       · simp only [St.sig, ho, Option.map_some, Option.some.injEq, Ob.sig] at hs
         subst hs
         simp only [Sig.ty, tyAt, stepTy]
         exact get_ty p _ _ _ _ _ hat
    | fst => simp [AddrOf] at hr
    | snd => simp [AddrOf] at hr
    | arr i => simp [AddrOf, arrEl] at hr
theorem run_load_cells {tab : Tab} (ht : TabOk P tab) {T : TypeId} {i : TI} (hi : tab.ti T = some i) {ad : Addr} {cs : List Value} (hc : cellsAt w ad cs) (hl : cs.length = i.ty.size) :
  (Instr.loadAt T (.pointer (some ad))).run P w = .ok (wrap i.ty cs) w := by
 obtain ⟨ti, h1, h2, h3⟩ := (ht T i hi).info
 have hk := (ht T i hi).kind
 have hlc := run_loadCells_list (P := P) w ad cs (fun j v hj => by
  obtain ⟨hj', e⟩ := List.getElem?_eq_some_iff.1 hj
  rw [hc j hj', e])
 have one : cs.length = 1 → (load ad).run P w = .ok (cs.headD undef) w := by
  intro e
  have := hc 0 (by omega)
  rw [add_zero] at this
  simp only [run_load, this]
  cases cs with
  | nil => simp at e
  | cons c l => rfl
 cases hty : i.ty with
 | int k => simp only [hty] at hk; simp [Instr.loadAt, Instr.sureAddr, loadVar, isAgg, run_underlying hk, wrap, one (by rw [hl, hty]; rfl), -run_load]
 | bool => simp only [hty] at hk; simp [Instr.loadAt, Instr.sureAddr, loadVar, isAgg, run_underlying hk, wrap, one (by rw [hl, hty]; rfl), -run_load]
 | str => simp only [hty] at hk; simp [Instr.loadAt, Instr.sureAddr, loadVar, isAgg, run_underlying hk, wrap, one (by rw [hl, hty]; rfl), -run_load]
 | list e => simp only [hty] at hk; obtain ⟨E, ie, tE, hk, _⟩ := hk; simp [Instr.loadAt, Instr.sureAddr, loadVar, isAgg, run_underlying hk, wrap, one (by rw [hl, hty]; rfl), -run_load]
 | unit => simp only [hty] at hk
 | prod x y =>
  simp only [hty] at hk
  have hsz : ti.size = cs.length := by rw [h2, hl]
  rcases hk with ⟨_, _, E, ie, hk, _⟩ | ⟨_, fs, hk, _⟩ <;>
  simp [Instr.loadAt, Instr.sureAddr, loadVar, isAgg, run_underlying hk, Go.sizeOf, typeInfo, h1, hsz, hlc, wrap, -run_load]
theorem tyOf_sig {id : Id} {p : List Step} {t : Ty} (h : s.tyOf id p = some t) : ∃ sg, s.sig id = some sg ∧ tyAt sg.ty p = some t := by
 unfold St.tyOf at h
 split at h
 · rename_i o ho
   exact ⟨_, by simp [St.sig, ho], h⟩
 · cases h
theorem fits_TC : ∀ {A : TV} {t : Ty} {t' : Ty} {cs : List Value}, TC g w s.sig A t' cs → s.fits t A = true → TC g w s.sig A t cs
 | .val v, t, t', cs, ⟨h1, h2⟩, h => by
  have h : v.t = t := by cases t <;> simpa [St.fits] using h
  exact ⟨h, h2⟩
 | .nil, t, t', cs, hc, h => by
  cases t <;> simp [St.fits] at h
  cases t' <;> simp only [TC] at hc
  exact hc
 | .ref id p, t, t', cs, hc, h => by
  cases t' <;> simp only [TC] at hc
  have h : s.tyOf id p = some t := by cases t <;> simpa [St.fits] using h
  obtain ⟨sg, k1, k2⟩ := tyOf_sig h
  obtain ⟨h1, h2⟩ := hc
  have := (h2 sg k1).1
  rw [this] at k2
  injection k2 with k2
  subst k2
  exact ⟨h1, h2⟩
 | .sub id p lo hi, t, t', cs, hc, h => by
  cases t' <;> simp only [TC] at hc
  have h : s.tyOf id p = some t := by cases t <;> simpa [St.fits] using h
  obtain ⟨sg, k1, k2⟩ := tyOf_sig h
  obtain ⟨h1, h2⟩ := hc
  have := (h1 sg k1).1
  rw [this] at k2
  injection k2 with k2
  subst k2
  exact ⟨h1, h2⟩
 | .pr a b, t, t', cs, hc, h => by
  cases t' <;> simp only [TC] at hc
  cases t <;> simp only [St.fits, Bool.false_eq_true] at h
  simp only [Bool.and_eq_true] at h
  obtain ⟨c, d, e, l1, l2, h1, h2⟩ := hc
  have k1 := fits_TC h1 h.1
  have k2 := fits_TC h2 h.2
  exact ⟨c, d, e, k1.len, k2.len, k1, k2⟩
 | .dead, t, _, _, _, h => by cases t <;> simp [St.fits] at h
 | .addr _ _, t, _, _, _, h => by cases t <;> simp [St.fits] at h
 | .saddr _, t, _, _, _, h => by cases t <;> simp [St.fits] at h
 | .fn _, t, _, _, _, h => by cases t <;> simp [St.fits] at h
 | .nilfn, t, _, _, _, h => by cases t <;> simp [St.fits] at h
 | .tup _, t, _, _, _, h => by cases t <;> simp [St.fits] at h
 | .tad _, t, _, _, _, h => by cases t <;> simp [St.fits] at h
theorem load_sound {tab : Tab} (ht : TabOk' P tab) (h : R g0 w0 N s g a w) (hh : s.hole = none) {T : TypeId} {k : TK} (hk : tab.find T = some k) {x : Operand} {K : TV → Option α} (hl : loadV k s (s.ev x) K = some r) :
  ∃ v mv, K v = some r ∧ (Instr.loadAt T (a.eval x)).run P w = .ok mv w ∧ TRep g w s.sig v mv := by
 have hx := h.ev x
 unfold loadV at hl
 cases k with
 | data i =>
  have hi : tab.ti T = some i := by simp [Tab.ti, hk]
  simp only at hl
  split at hl
  · rename_i v hv
    rw [hv] at hx
    obtain ⟨ad, cs, h1, h2, h3, h4, h5, h6⟩ := hx
    split at hl
    · rename_i y hy
      have e := castTo_some hy
      subst e
      rw [h1]
      exact ⟨_, _, hl, run_load_cells ht.data hi h5 h6.len, ⟨cs, h6, rfl⟩⟩
    · cases hl
  · rename_i A hv
    rw [hv] at hx
    obtain ⟨ad, t, cs, h1, h2, h3, h4, h5, h6⟩ := hx
    cases hf : s.fits i.ty A
    · rw [hf] at hl; cases hl
    · rw [hf] at hl
      have h7 := fits_TC h6 hf
      rw [h1]
      exact ⟨_, _, hl, run_load_cells ht.data hi h5 h7.len, h7.rep⟩
  · rename_i id p hv
    rw [hv] at hx
    obtain ⟨ad, h1, h2⟩ := hx
    split at hl
    · rename_i m v hat
      split at hl
      · rename_i y hy
        have e := castTo_some hy
        subst e
        obtain ⟨r1, r2, _, ds, r3, r4, r5⟩ := h.place hh hat h2
        rw [h1]
        exact ⟨_, _, hl, run_load_cells ht.data hi r3 r4.len, (view_sound _ _ _ _ _ r5 (fun sg hs _ => ⟨ad, h2 sg hs⟩) r4).rep⟩
      · cases hl
    · cases hl
  · cases hl
 | fn =>
  simp only at hl
  obtain ⟨ps, rs, vr, hu⟩ := (ht.fn T hk).kind
  split at hl
  · rename_i id hv
    rw [hv] at hx
    obtain ⟨ad, h1, h2⟩ := hx
    split at hl
    · rename_i f ho
      have hob := h.objs id _ ho
      obtain ⟨_, _, _, hc⟩ := hob
      have h3 := h2 _ (by simp [St.sig, ho]; rfl)
      simp only [Ob.sig, AddrRoot] at h3
      rw [h1]
      refine ⟨_, FnVal g f, hl, ?_, rfl⟩
      simp only [h3.2]
      simp [Instr.loadAt, Instr.sureAddr, loadVar, isAgg, run_underlying hu, hc, FnVal]
    · rename_i ho
      have hob := h.objs id _ ho
      obtain ⟨_, _, _, hc⟩ := hob
      have h3 := h2 _ (by simp [St.sig, ho]; rfl)
      simp only [Ob.sig, AddrRoot] at h3
      rw [h1]
      refine ⟨_, .nilFunc, hl, ?_, rfl⟩
      simp only [h3.2]
      simp [Instr.loadAt, Instr.sureAddr, loadVar, isAgg, run_underlying hu, hc]
    · cases hl
  · cases hl
theorem R.header (h : R g0 w0 N s g a w) {id : Id} {p : List Step} {m : Mask} {t : Ty} {xs : List t.den} (hat : s.seen id p = some (.own m, ⟨.list t, xs⟩)) (hr : ∀ sg, s.sig id = some sg → RefAt g id sg p) :
  ∃ E, LRep g w (some id) p xs.length t.size E ∧ (∀ i ds, E i ds → ∃ h : i < xs.length, ORep g w s.hl (some id) t m (p ++ [.idx i]) xs[i] ds) := by
 have hsig : ∃ o, s.obj id = some o := by
  cases ho : s.obj id with
  | none =>
   simp only [St.seen, St.at, ho] at hat
   split at hat
   · cases hat
   · split at hat <;> cases hat
  | some o => exact ⟨o, rfl⟩
 obtain ⟨o, ho⟩ := hsig
 have hsg : s.sig id = some o.sig := by simp [St.sig, ho]
 have hob := h.objs id o ho
 cases hh : s.hole with
 | some q =>
  simp only [St.seen, hh, ho] at hat
  split at hat
  · split at hat
    · rename_i e
      injection e with e
      subst e
      rename_i m' t' ys
      simp only [Option.some.injEq, Prod.mk.injEq] at hat
      obtain ⟨h1, h2⟩ := hat
      injection h1 with h1
      subst h1
      injection h2 with h2 h3
      injection h2 with h2
      subst h2
      have h3 := eq_of_heq h3
      subst h3
      exact ⟨_, hob, fun _ _ k => k⟩
    · cases hat
  · cases hat
 | none =>
  simp only [St.seen, hh] at hat
  rcases hr _ hsg with ⟨rfl, u, hu⟩ | ⟨c, hc⟩
  · cases o with
    | vec mb t' ys =>
     rw [St.hl, hh] at hob
     simp only [St.at, ho, Ob.root, get, Option.some.injEq, Prod.mk.injEq] at hat
     obtain ⟨h1, h2⟩ := hat
     injection h1 with h1
     subst h1
     injection h2 with h2 h3
     injection h2 with h2
     subst h2
     have h3 := eq_of_heq h3
     subst h3
     exact ⟨_, hob, fun _ _ k => by rw [St.hl, hh]; exact k⟩
    | box _ _ => cases hu
    | fbox _ => cases hu
  · obtain ⟨_, _, _, ds, _, r4, _⟩ := h.place hh hat (ad := c) (fun sg' hs => by rw [hsg] at hs; injection hs with hs; subst hs; exact hc)
    rcases r4 with ⟨r4, _⟩ | ⟨_, _, r4⟩
    · cases r4
    · exact ⟨_, r4, fun _ _ k => by rw [St.hl, hh]; exact k⟩
end
end Go.Ve
namespace Go.Ve
open Go Go.RowKit
section
variable {P : Program} {g0 : Gh} {w0 : Fra} {N : Nat} {s : St} {g : Gh} {a : Act} {w : World} {α : Type} {r : α} {Q : Exit → Act → World → Prop}
theorem wrap_list {t : Ty} {c : Value} : wrap (.list t) [c] = c := rfl
theorem TRep.ref {sg : Id → Option Sig} {id : Id} {p : List Step} {mv : Value} (h : TRep g w sg (.ref id p) mv) : mv = g.hdr (some id) p ∧ ∃ t, ∀ s, sg id = some s → tyAt s.ty p = some (.list t) ∧ RefAt g id s p := by
 obtain ⟨t, cs, h, e⟩ := h
 cases t <;> try (exact h.elim)
 obtain ⟨h1, h2⟩ := h
 subst h1
 exact ⟨e, _, h2⟩
theorem seen_sig {id : Id} {p : List Step} {m : Mask} {v : Val} (h : s.seen id p = some (m, v)) : ∃ sg, s.sig id = some sg ∧ tyAt sg.ty p = some v.t := by
 cases ho : s.obj id with
 | none =>
  simp only [St.seen, St.at, ho] at h
  split at h
  · cases h
  · split at h <;> cases h
 | some o =>
  refine ⟨o.sig, by simp [St.sig, ho], ?_⟩
  have at' : s.at id p = some (m, v) → tyAt o.sig.ty p = some v.t := by
   intro h
   simp only [St.at, ho] at h
   cases o with
   | vec _ t xs => simp only [Ob.root] at h; exact get_ty p _ _ _ _ _ h
   | box _ v => simp only [Ob.root] at h; exact get_ty p _ _ _ _ _ h
   | fbox f => simp [Ob.root] at h
  unfold St.seen at h
  split at h
  · exact at' h
  · split at h
    · split at h
      · rename_i e
        rw [ho] at e
        injection e with e
        subst e
        simp only [Option.some.injEq, Prod.mk.injEq] at h
        obtain ⟨_, rfl⟩ := h
        rfl
      · cases h
    · cases h
theorem TRep.sub {sg : Id → Option Sig} {id : Id} {p : List Step} {lo hi : Nat} {mv : Value} (h : TRep g w sg (.sub id p lo hi) mv) : ∃ t, (∀ s, sg id = some s → tyAt s.ty p = some (.list t) ∧ RefAt g id s p) ∧ lo ≤ hi ∧
   ((g.hdr (some id) p = .slice none 0 0 ∧ hi = 0 ∧ mv = .slice none 0 0) ∨
    ∃ a len cap b, g.hdr (some id) p = .slice (some a) len cap ∧ a.spot = none ∧ len ≤ cap ∧ hi ≤ len ∧ (lo < cap → b = a.add (lo * t.size)) ∧ b.block = a.block ∧ b.spot = none ∧ b.off ≤ a.off + cap * t.size ∧ mv = .slice (some b) (hi - lo) (cap - lo)) := by
 obtain ⟨t, cs, h, e⟩ := h
 cases t <;> try (exact h.elim)
 rename_i t
 obtain ⟨h1, h2, h3⟩ := h
 refine ⟨t, h1, h2, ?_⟩
 rcases h3 with ⟨q1, q2, q3⟩ | ⟨a, len, cap, b, q1, q2, q3, q4, q5, q51, q52, q53, q6⟩
 · subst q3; exact .inl ⟨q1, q2, e⟩
 · subst q6; exact .inr ⟨a, len, cap, b, q1, q2, q3, q4, q5, q51, q52, q53, e⟩
theorem SRep.list {t : Ty} {xs : List t.den} {cs : List Value} (h : SRep g w (.list t) xs cs) : (wrap (.list t) cs = .slice none 0 0 ∧ xs = []) ∨
   ∃ a cap, wrap (.list t) cs = .slice (some a) (List.length xs) cap ∧ (0 < List.length xs → a.spot = none) ∧ List.length xs ≤ cap ∧ ∀ i, (h : i < List.length xs) → g.own a.block = none ∧ a.block < w.heap.size ∧
    ∃ ds, cellsAt w (a.add (i * t.size)) ds ∧ SRep g w t xs[i] ds := by
 rcases h with ⟨h, k⟩ | ⟨a, cap, h, k⟩
 · subst h; exact .inl ⟨rfl, k⟩
 · subst h; exact .inr ⟨a, cap, rfl, k⟩
theorem sizeOf_ok {tab : Tab} (ht : TabOk P tab) {T : TypeId} {i : TI} (hi : tab.ti T = some i) : (Go.sizeOf T).run P w = .ok i.ty.size w := by
 obtain ⟨ti, h1, h2, h3⟩ := (ht T i hi).info
 simp [Go.sizeOf, typeInfo, h1, h2]
theorem slice_index {T E : TypeId} {ie : TI} {tab : Tab} (ht : TabOk P tab) (hu : P.underlying T = some (.slice E)) (hE : tab.ti E = some ie) {ad : Addr} {len cap : Nat} {k : IntKind} {j : Int} (h1 : 0 ≤ j) (h2 : j < len) :
  (Instr.indexAt T (.slice (some ad) len cap) (.int k j)).run P w = .ok (.pointer (some (ad.add (j.toNat * ie.ty.size)))) w := by
 simp [Instr.indexAt, asIntOf, run_underlying hu, h1, h2, sizeOf_ok ht hE]
theorem indexAddr_sound {tab : Tab} (ht : TabOk P tab) (h : R g0 w0 N s g a w) {T : TypeId} {i : TI} (hi : tab.ti T = some i) {x : Operand} {j : Int} {mj : Value} {k : IntKind} (hj : mj = .int k j) {K : TV → Option α}
  (hk : indexAddrV i s (s.ev x) j K = some r) : ∃ v mv, K v = some r ∧ (∀ w, (Instr.indexAt T (a.eval x) mj).run P w = .ok mv w) ∧ TRep g w s.sig v mv := by
 have hx := h.ev x
 have hok := (ht T i hi).kind
 subst hj
 unfold indexAddrV at hk
 split at hk
 · rename_i e hty
   simp only [hty] at hok
   obtain ⟨E, ie, ti, hu, hE, rfl, _⟩ := hok
   split at hk
   · rename_i v hv
     rw [hv] at hx
     split at hk
     · rename_i xs hc
       have := castTo_some hc
       subst this
       obtain ⟨hg, hk⟩ := guardB_some hk
       simp only [Bool.and_eq_true, decide_eq_true_eq] at hg
       obtain ⟨hg1, hg2⟩ := hg
       obtain ⟨cs, h1, h2⟩ := hx.val
       rcases h1.list with ⟨q1, q2⟩ | ⟨ad, cap, q1, q2, q3, q4⟩
       · rw [q2] at hg2; simp at hg2; omega
       · have hl : j.toNat < xs.length := by omega
         obtain ⟨o1, o2, ds, o3, o4⟩ := q4 j.toNat hl
         rw [h2, q1]
         refine ⟨_, _, hk, fun w => slice_index ht hu hE hg1 hg2, ⟨_, ds, rfl, add_spot (q2 (by omega)) _, by rw [add_block]; exact .inl o1, by rw [add_block]; exact o2, o3, ?_⟩⟩
         have hx : (xs : List ie.ty.den).getD j.toNat ie.ty.zero = xs[j.toNat] := by simp [List.getD, hl]
         simp only [hx]
         exact o4
     · cases hk
   · rename_i id p hv
     rw [hv] at hx
     obtain ⟨e1, t, e2⟩ := hx.ref
     split at hk
     · rename_i m v hs
       split at hk
       · rename_i xs hc
         have := castTo_some hc
         subst this
         cases hn : noArr p
         · simp [hn] at hk
         · simp only [hn, cond_true] at hk
           obtain ⟨hg, hk⟩ := guardB_some hk
           simp only [Bool.and_eq_true, decide_eq_true_eq] at hg
           obtain ⟨hg1, hg2⟩ := hg
           obtain ⟨E', hE', _⟩ := h.header hs (fun sg hsg => (e2 sg hsg).2)
           rcases hE' with ⟨q1, q2⟩ | ⟨ad, cap, c, el, q1, q2, q3, q4, q5, q6, q7, q8⟩
           · rw [q2] at hg2; simp at hg2; omega
           · rw [e1, q1]
             refine ⟨_, _, hk, fun w => slice_index ht hu hE hg1 hg2, ⟨_, rfl, fun sg hsg => ?_⟩⟩
             have hidx : AddrOf g (some id) (.list ie.ty) p [.idx j.toNat] ⟨0, 0, none⟩ (ad.add (j.toNat * ie.ty.size)) ∧ ∀ b, AddrOf g (some id) (.list ie.ty) p [.idx j.toNat] b (ad.add (j.toNat * ie.ty.size)) := by
              have : ∀ b, AddrOf g (some id) (.list ie.ty) p [.idx j.toNat] b (ad.add (j.toNat * ie.ty.size)) := fun b => ⟨ad, _, cap, q1, q2, by omega, by simp [AddrOf]⟩
              exact ⟨this _, this⟩
             obtain ⟨sg', k1, k2⟩ := seen_sig hs
             rw [hsg] at k1
             injection k1 with k1
             subst k1
             rcases (e2 sg hsg).2 with ⟨rfl, u, rfl⟩ | ⟨c', hc'⟩
             · simp only [Sig.ty, tyAt, Option.some.injEq, Ty.list.injEq] at k2
               subst k2
               exact ⟨by simp, hidx.1⟩
             · exact hc'.app hn k2 (hidx.2 _)
       · cases hk
     · cases hk
   · rename_i id p lo hi hv
     rw [hv] at hx
     obtain ⟨t, e1, e2, e3⟩ := hx.sub
     cases hb : noArr p && decide (s.tyOf id p = some (.list ie.ty))
     · simp [hb] at hk
     · simp only [hb, cond_true] at hk
       simp only [Bool.and_eq_true, decide_eq_true_eq] at hb
       obtain ⟨hn, hty'⟩ := hb
       obtain ⟨sg, k1, k2⟩ := tyOf_sig hty'
       obtain ⟨f1, f2⟩ := e1 sg k1
       rw [f1] at k2
       injection k2 with k2
       injection k2 with k2
       subst k2
       obtain ⟨hg, hk⟩ := guardB_some hk
       simp only [Bool.and_eq_true, decide_eq_true_eq] at hg
       obtain ⟨hg1, hg2⟩ := hg
       rcases e3 with ⟨q1, q2, q3⟩ | ⟨ad, len, cap, b, q1, q2, q3, q4, q5, _, _, _, q6⟩
       · omega
       · have q5 := q5 (by omega)
         subst q5
         rw [q6]
         have hidx : ∀ b, AddrOf g (some id) (.list ie.ty) p [.idx (lo + j.toNat)] b ((ad.add (lo * ie.ty.size)).add (j.toNat * ie.ty.size)) := fun b =>
          ⟨ad, _, cap, q1, q2, by omega, by rw [add_add q2, ← Nat.add_mul]; simp [AddrOf]⟩
         refine ⟨_, _, hk, fun w => slice_index ht hu hE hg1 (by omega), ⟨_, rfl, fun sg' hsg => ?_⟩⟩
         rw [k1] at hsg
         injection hsg with hsg
         subst hsg
         rcases f2 with ⟨rfl, u, rfl⟩ | ⟨c', hc'⟩
         · simp only [Sig.ty, tyAt, Option.some.injEq, Ty.list.injEq] at f1
           subst f1
           exact ⟨by simp, hidx _⟩
         · exact hc'.app hn f1 (hidx _)
   · cases hk
 · rename_i e f hty
   simp only [hty] at hok
   cases hb : i.isArr
   · simp [hb] at hk
   · simp only [hb, cond_true] at hk
     rcases hok with ⟨_, har, E, ie, hu, hE, rfl, rfl⟩ | ⟨h0, _⟩
     · split at hk
       · rename_i id p hv
         rw [hv] at hx
         obtain ⟨ad, e1, e2⟩ := hx
         cases hb2 : noArr p && decide (s.tyOf id p = some (.prod ie.ty ie.ty)) && !ie.ty.lists
         · simp [hb2] at hk
         · simp only [hb2, cond_true] at hk
           simp only [Bool.and_eq_true, decide_eq_true_eq, Bool.not_eq_true'] at hb2
           obtain ⟨⟨hn, hty'⟩, hls⟩ := hb2
           obtain ⟨hg, hk⟩ := guardB_some hk
           simp only [Bool.and_eq_true, decide_eq_true_eq] at hg
           obtain ⟨hg1, hg2⟩ := hg
           rw [e1]
           refine ⟨_, .pointer (some (ad.add (j.toNat * ie.ty.size))), hk, by simp [Instr.indexAt, asIntOf, run_underlying hu, Instr.sureAddr, hg1, hg2, sizeOf_ok ht hE], ⟨_, rfl, fun sg hsg => ?_⟩⟩
           obtain ⟨sg', k1, k2⟩ := tyOf_sig hty'
           rw [hsg] at k1
           injection k1 with k1
           subst k1
           exact (e2 sg hsg).app hn k2 ⟨ie.ty, arrEl_self hls, by omega, rfl, rfl⟩
       · rename_i v hv
         rw [hv] at hx
         obtain ⟨ad, cs, e1, e2, e3, e4, e5, e6⟩ := hx
         split at hk
         · rename_i y hc
           have := castTo_some hc
           subst this
           obtain ⟨hg, hk⟩ := guardB_some hk
           simp only [Bool.and_eq_true, decide_eq_true_eq] at hg
           obtain ⟨hg1, hg2⟩ := hg
           split at hk
           · rename_i w' hw
             obtain ⟨a', e, h1, h2, h3⟩ := arrGet_some hw
             obtain ⟨rfl, _⟩ := Ty.prod.inj e
             simp only at h3
             subst h3
             obtain ⟨c, d, rfl, s1, s2⟩ := e6
             have l1 := s1.len
             obtain ⟨q1, q2⟩ := e5.app e2
             rw [e1]
             refine ⟨_, .pointer (some (ad.add (j.toNat * ie.ty.size))), hk, by simp [Instr.indexAt, asIntOf, run_underlying hu, Instr.sureAddr, hg1, hg2, sizeOf_ok ht hE], ?_⟩
             have : j.toNat = 0 ∨ j.toNat = 1 := by omega
             rcases this with hj | hj <;> rw [hj]
             · exact ⟨_, c, rfl, add_spot e2 _, by rw [add_block]; exact e3, by rw [add_block]; exact e4, by simpa [add_zero] using q1, s1⟩
             · exact ⟨_, d, rfl, add_spot e2 _, by rw [add_block]; exact e3, by rw [add_block]; exact e4, by rw [l1] at q2; simpa using q2, s2⟩
           · cases hk
         · cases hk
       · cases hk
     · rw [h0] at hb; cases hb
 · cases hk
theorem fieldSteps_addr {id : RId} : ∀ (n j : Nat) (t u : Ty) (pre : List Step) (a : Addr), a.spot = none → compTy n j t = some u → AddrOf g id t pre (fieldSteps n j) a (a.add (compOff n j t))
 | 0, _, _, _, _, _, _, h => by simp [compTy] at h
 | 1, j, t, u, pre, a, ha, h => by
  have : compOff 1 j t = 0 := by cases j <;> rfl
  rw [this, Go.Ve.add_zero]
  simp [fieldSteps, AddrOf]
 | n + 2, 0, t, u, pre, a, ha, h => by
  cases t <;> simp only [compTy] at h <;> try (cases h)
  simp [fieldSteps, AddrOf, compOff, Go.Ve.add_zero]
 | n + 2, j + 1, t, u, pre, a, ha, h => by
  cases t <;> simp only [compTy] at h <;> try (cases h)
  rename_i x y
  simp only [fieldSteps, AddrOf, compOff]
  rw [← add_add ha]
  exact fieldSteps_addr (n + 1) j y u _ _ (add_spot ha _) h
theorem struct_field {tab : Tab} (ht : TabOk P tab) {T : TypeId} {i : TI} (hi : tab.ti T = some i) (hA : i.isArr = false) {j : Nat} (hj : j < i.arity) (hp : i.ty.isProd = true) :
  ∃ fs f fi, P.underlying T = some (.struct fs) ∧ fs[j]? = some f ∧ tab.ti f.type = some fi ∧ compTy i.arity j i.ty = some fi.ty ∧ f.offset = compOff i.arity j i.ty := by
 have hok := (ht T i hi).kind
 cases hty : i.ty <;> rw [hty] at hp <;> simp only [Ty.isProd, Bool.false_eq_true] at hp
 simp only [hty] at hok
 rcases hok with ⟨h, _⟩ | ⟨_, fs, h1, h2, h3⟩
 · rw [h] at hA; cases hA
 · have hj' : j < fs.size := by omega
   obtain ⟨fi, k1, k2, k3⟩ := h3 j fs[j] (by simp [hj'])
   exact ⟨fs, fs[j], fi, h1, by simp [hj'], k1, k2, k3⟩
theorem run_fieldAt {tab : Tab} (ht : TabOk P tab) {T : TypeId} {i : TI} (hi : tab.ti T = some i) (hA : i.isArr = false) {j : Nat} (hj : j < i.arity) (hp : i.ty.isProd = true) {ad : Addr} :
  ∃ u, compTy i.arity j i.ty = some u ∧ (∀ w, (Instr.fieldAt T (.pointer (some ad)) j).run P w = .ok (.pointer (some (ad.add (compOff i.arity j i.ty)))) w) := by
 obtain ⟨fs, f, fi, h1, h2, h3, h4, h5⟩ := struct_field ht hi hA hj hp
 have hpos := (ht _ _ h3).pos
 refine ⟨fi.ty, h4, ?_⟩
 have : ¬ fi.ty.size = 0 := by omega
 simp [Instr.fieldAt, run_underlying h1, h2, Instr.sureAddr, fieldPlace, sizeOf_ok ht h3, this, h5]
theorem valComp_sound : ∀ (n j : Nat) (t : Ty) (x : t.den) (v : Val) (cs : List Value), valComp n j ⟨t, x⟩ = some v → SRep g w t x cs → j < n →
  compTy n j t = some v.t ∧ ∃ c ds d, cs = c ++ ds ++ d ∧ c.length = compOff n j t ∧ SRep g w v.t v.x ds
 | 0, _, _, _, _, _, h, _, _ => by simp [valComp] at h
 | 1, j, t, x, v, cs, h, hs, hj => by
  simp only [valComp, Option.some.injEq] at h
  subst h
  obtain rfl : j = 0 := by omega
  exact ⟨rfl, [], cs, [], by simp, rfl, hs⟩
 | n + 2, 0, t, x, v, cs, h, hs, _ => by
  cases t <;> simp only [valComp] at h <;> try (cases h)
  obtain ⟨c, d, rfl, h1, h2⟩ := hs
  exact ⟨rfl, [], c, d, by simp, rfl, h1⟩
 | n + 2, j + 1, t, x, v, cs, h, hs, hj => by
  cases t <;> simp only [valComp] at h <;> try (cases h)
  obtain ⟨c, d, rfl, h1, h2⟩ := hs
  obtain ⟨k1, c', ds, d', k2, k3, k4⟩ := valComp_sound (n + 1) j _ _ v d h h2 (by omega)
  exact ⟨k1, c ++ c', ds, d', by simp [k2], by simp [compOff, k3, h1.len], k4⟩
theorem TRep.fits {A : TV} {mv : Value} {t : Ty} (h : TRep g w s.sig A mv) (hf : s.fits t A = true) : ∃ cs, TC g w s.sig A t cs ∧ mv = wrap t cs := by
 have aux : ∀ {t' : Ty} {cs : List Value}, TC g w s.sig A t' cs → mv = wrap t' cs → ∃ cs, TC g w s.sig A t cs ∧ mv = wrap t cs := fun {t' cs} hc e => by
  have k := fits_TC hc hf
  refine ⟨cs, k, ?_⟩
  have l1 := hc.len
  have l2 := k.len
  rw [e]
  cases A with
  | val v => obtain ⟨rfl, _⟩ := hc; obtain ⟨rfl, _⟩ := k; rfl
  | pr a b =>
   cases t' <;> simp only [TC] at hc
   cases t <;> simp only [St.fits, Bool.false_eq_true] at hf
   rfl
  | ref id p =>
   cases t' <;> simp only [TC] at hc
   cases t <;> simp only [TC] at k
   rfl
  | sub id p lo hi =>
   cases t' <;> simp only [TC] at hc
   cases t <;> simp only [TC] at k
   rfl
  | nil =>
   cases t' <;> simp only [TC] at hc
   cases t <;> simp only [TC] at k
   rfl
  | _ => cases t <;> simp [St.fits] at hf
 cases A with
 | val v => obtain ⟨cs, h1, h2⟩ := h; exact aux ⟨rfl, h1⟩ h2
 | nil =>
  cases t <;> simp [St.fits] at hf
  exact ⟨[.slice none 0 0], rfl, h⟩
 | ref id p => obtain ⟨t', cs, h1, h2⟩ := h; exact aux h1 h2
 | sub id p lo hi => obtain ⟨t', cs, h1, h2⟩ := h; exact aux h1 h2
 | pr a b => obtain ⟨t', cs, h1, h2⟩ := h; exact aux h1 h2
 | _ => cases t <;> simp [St.fits] at hf
theorem comp_sound {sg : Id → Option Sig} : ∀ (n j : Nat) (A : TV) (t u : Ty) (cs : List Value), TC g w sg A t cs → (t.isProd = true → (∃ v, A = .val v) ∨ ∃ x y, A = .pr x y) → compTy n j t = some u → j < n →
  (∃ c ds d, cs = c ++ ds ++ d ∧ c.length = compOff n j t ∧ TC g w sg (comp n j A) u ds) ∨ comp n j A = .dead
 | 0, _, _, _, _, _, _, _, h, _ => by simp [compTy] at h
 | 1, j, A, t, u, cs, hc, _, h, hj => by
  obtain rfl : j = 0 := by omega
  simp only [compTy, Option.some.injEq] at h
  subst h
  exact .inl ⟨[], cs, [], by simp, rfl, by simpa [comp] using hc⟩
 | n + 2, 0, A, t, u, cs, hc, hA, h, _ => by
  cases t <;> simp only [compTy, Option.some.injEq] at h <;> try (cases h)
  rcases hA rfl with ⟨v, rfl⟩ | ⟨x, y, rfl⟩
  · obtain ⟨e, h1⟩ := hc
    obtain ⟨vt, vx⟩ := v
    simp only at e
    subst e
    obtain ⟨c, d, rfl, h1, h2⟩ := h1
    exact .inl ⟨[], c, d, by simp, rfl, rfl, h1⟩
  · obtain ⟨c, d, rfl, _, _, h1, h2⟩ := hc
    exact .inl ⟨[], c, d, by simp, rfl, h1⟩
 | n + 2, j + 1, A, t, u, cs, hc, hA, h, hj => by
  cases t <;> simp only [compTy] at h <;> try (cases h)
  rcases hA rfl with ⟨v, rfl⟩ | ⟨x, y, rfl⟩
  · obtain ⟨e, h1⟩ := hc
    obtain ⟨vt, vx⟩ := v
    simp only at e
    subst e
    obtain ⟨c, d, rfl, h1, h2⟩ := h1
    rcases comp_sound (n + 1) j (.val ⟨_, vx.2⟩) _ u d ⟨rfl, h2⟩ (fun _ => .inl ⟨_, rfl⟩) h (by omega) with ⟨c', ds, d', k2, k3, k4⟩ | k
    · exact .inl ⟨c ++ c', ds, d', by simp [k2], by simp [compOff, k3, h1.len], by simpa [comp] using k4⟩
    · exact .inr (by simpa [comp] using k)
  · obtain ⟨c, d, rfl, l1, _, h1, h2⟩ := hc
    by_cases hy : (∃ v, y = .val v) ∨ ∃ x' y', y = .pr x' y'
    · rcases comp_sound (n + 1) j y _ u d h2 (fun _ => hy) h (by omega) with ⟨c', ds, d', k2, k3, k4⟩ | k
      · exact .inl ⟨c ++ c', ds, d', by simp [k2], by simp [compOff, k3, l1], by simpa [comp] using k4⟩
      · exact .inr (by simpa [comp] using k)
    · cases n with
      | zero =>
       obtain rfl : j = 0 := by omega
       have h : some _ = some u := h
       injection h with h
       subst h
       exact .inl ⟨c, d, [], by simp, by simp [compOff, l1], by simpa [comp] using h2⟩
      | succ n =>
       refine .inr ?_
       have : comp (n + 1 + 2) (j + 1) (.pr x y) = comp (n + 2) j y := rfl
       rw [this]
       cases y with
       | val v => exact absurd (.inl ⟨_, rfl⟩) hy
       | pr a b => exact absurd (.inr ⟨_, _, rfl⟩) hy
       | _ => cases j <;> rfl
end
end Go.Ve
namespace Go.Ve
open Go Go.RowKit
section
variable {P : Program} {g0 : Gh} {w0 : Fra} {N : Nat} {s : St} {g : Gh} {a : Act} {w : World} {α : Type} {r : α} {Q : Exit → Act → World → Prop}
theorem SRep.list_len {t : Ty} {xs : List t.den} {cs : List Value} (h : SRep g w (.list t) xs cs) : ∃ ad cap, wrap (.list t) cs = .slice ad xs.length cap := by
 rcases h.list with ⟨h, k⟩ | ⟨ad, cap, h, _⟩
 · exact ⟨none, 0, by rw [h, k]; rfl⟩
 · exact ⟨some ad, cap, h⟩
theorem len_sound (h : R g0 w0 N s g a w) {x : Operand} {n : Nat} (hl : lenV s (s.ev x) = some n) : ∃ ad cap, a.eval x = .slice ad n cap := by
 have hx := h.ev x
 unfold lenV at hl
 split at hl
 · rename_i t xs hv
   rw [hv] at hx
   injection hl with hl
   subst hl
   obtain ⟨cs, h1, h2⟩ := hx.val
   obtain ⟨ad, cap, e⟩ := h1.list_len
   exact ⟨ad, cap, by rw [h2, e]⟩
 · rename_i hv
   rw [hv] at hx
   injection hl with hl
   subst hl
   exact ⟨none, 0, hx⟩
 · rename_i id p lo hi hv
   rw [hv] at hx
   injection hl with hl
   subst hl
   obtain ⟨t, _, h2, h3⟩ := hx.sub
   rcases h3 with ⟨_, q2, q3⟩ | ⟨ad, len, cap, b, _, _, _, _, _, _, _, _, q⟩
   · exact ⟨none, 0, by rw [q3, q2, Nat.zero_sub]⟩
   · exact ⟨_, _, q⟩
 · rename_i id p hv
   rw [hv] at hx
   obtain ⟨e1, t, e2⟩ := hx.ref
   split at hl
   · rename_i m t xs hs
     injection hl with hl
     subst hl
     obtain ⟨E, hE, _⟩ := h.header hs (fun sg hsg => (e2 sg hsg).2)
     rcases hE with ⟨q1, q2⟩ | ⟨ad, cap, c, el, q1, _⟩
     · exact ⟨none, 0, by rw [e1, q1, q2]⟩
     · exact ⟨some ad, cap, by rw [e1, q1]⟩
   · cases hl
 · cases hl
def BoundRep : Option Value → Option Int → Prop
 | none, none => True
 | some v, some i => ∃ k, v = .int k i
 | _, _ => False
theorem boundOf_sound (h : R g0 w0 N s g a w) {o : Option Operand} {b : Option Int} (hb : boundOf s o = some b) : BoundRep (o.map a.eval) b := by
 unfold boundOf at hb
 split at hb
 · injection hb with hb; subst hb; trivial
 · rename_i o
   have hx := h.ev o
   split at hb
   · rename_i i hi
     injection hb with hb
     subst hb
     unfold intOf at hi
     split at hi
     · rename_i k j hv
       injection hi with hi
       subst hi
       rw [hv] at hx
       exact ⟨_, hx.int⟩
     · cases hi
   · cases hb
theorem run_bounds {isSlice : Bool} {len cap : Nat} {lo hi : Option Value} {l h : Option Int} (hl : BoundRep lo l) (hh : BoundRep hi h) (h0 : 0 ≤ l.getD 0) (h1 : l.getD 0 ≤ h.getD len) (h2 : h.getD len ≤ cap) :
  (Instr.sliceBounds isSlice len cap lo hi none).run P w = .ok ((l.getD 0).toNat, (h.getD len).toNat, cap) w := by
 cases lo <;> cases l <;> simp only [BoundRep] at hl <;> cases hi <;> cases h <;> simp only [BoundRep] at hh
 · simp [Instr.sliceBounds]
 · rename_i hv hi
   obtain ⟨k, rfl⟩ := hh
   simp only [Option.getD_none, Option.getD_some] at h0 h1 h2 ⊢
   simp [Instr.sliceBounds, Instr.sliceBound, asIntOf, h1, h2]
 · rename_i lv li
   obtain ⟨k, rfl⟩ := hl
   simp only [Option.getD_none, Option.getD_some] at h0 h1 h2 ⊢
   simp [Instr.sliceBounds, Instr.sliceBound, asIntOf, h0, h1]
 · rename_i lv li hv hi
   obtain ⟨k, rfl⟩ := hl
   obtain ⟨k', rfl⟩ := hh
   simp only [Option.getD_some] at h0 h1 h2 ⊢
   have h3 : 0 ≤ hi := by omega
   have h4 : li ≤ (hi.toNat : Int) := by omega
   simp [Instr.sliceBounds, Instr.sliceBound, asIntOf, h0, h2, h3]
   intro hm; omega
theorem run_slice {tab : Tab} (ht : TabOk P tab) {T E : TypeId} {ie : TI} (hu : P.underlying T = some (.slice E)) (hE : tab.ti E = some ie) {ad : Option Addr} {len cap : Nat} {lo hi : Option Value} {l h : Option Int} (hl : BoundRep lo l) (hh : BoundRep hi h)
  (h0 : 0 ≤ l.getD 0) (h1 : l.getD 0 ≤ h.getD len) (h2 : h.getD len ≤ cap) :
  (Instr.sliceAt T (.slice ad len cap) lo hi none).run P w = .ok (.slice (if cap = (l.getD 0).toNat then ad else ad.map (·.add ((l.getD 0).toNat * ie.ty.size))) ((h.getD len).toNat - (l.getD 0).toNat) (cap - (l.getD 0).toNat)) w := by
 have hb := run_bounds (P := P) (w := w) (isSlice := true) hl hh h0 h1 h2
 simp only [Instr.sliceAt, Instr.slice, Sem.run_bind, run_underlying hu, Result.andThen_ok, hb, sizeOf_ok ht hE, Sem.run_pure]
theorem run_slice_str {tab : Tab} {T : TypeId} (hu : P.underlying T = some .string) {b : ByteArray} {lo hi : Option Value} {l h : Option Int} (hl : BoundRep lo l) (hh : BoundRep hi h)
  (h0 : 0 ≤ l.getD 0) (h1 : l.getD 0 ≤ h.getD b.size) (h2 : h.getD b.size ≤ b.size) :
  (Instr.sliceAt T (.string b) lo hi none).run P w = .ok (.string (b.extract (l.getD 0).toNat (h.getD b.size).toNat)) w := by
 have hb := run_bounds (P := P) (w := w) (isSlice := false) hl hh h0 h1 h2
 simp only [Instr.sliceAt, Instr.slice, Sem.run_bind, run_underlying hu, Result.andThen_ok, hb, Sem.run_pure, Option.isSome_none, Bool.false_eq_true, if_false]
theorem SRep.slice {t : Ty} {xs : List t.den} {cs : List Value} (h : SRep g w (.list t) xs cs) {lo hi : Nat} (h1 : lo ≤ hi) (h2 : hi ≤ xs.length) :
  ∃ ad cap, wrap (.list t) cs = .slice ad xs.length cap ∧ xs.length ≤ cap ∧
   SRep g w (.list t) ((List.take hi xs).drop lo) [.slice (if cap = lo then ad else ad.map (·.add (lo * t.size))) (hi - lo) (cap - lo)] := by
 have hlen : ((List.take hi xs).drop lo).length = hi - lo := by simp; omega
 rcases h.list with ⟨e, k⟩ | ⟨ad, cap, e, q2, q3, q4⟩
 · subst k
   simp at h2
   have : lo = 0 := by omega
   subst this
   subst h2
   exact ⟨none, 0, by rw [e]; rfl, by simp, .inl ⟨by simp, by simp⟩⟩
 · refine ⟨some ad, cap, e, q3, .inr ⟨if cap = lo then ad else ad.add (lo * t.size), cap - lo, ?_, ?_, by rw [hlen]; omega, fun i hi' => ?_⟩⟩
   · rw [hlen]
     by_cases hc : cap = lo <;> simp [hc]
   · intro hp
     rw [hlen] at hp
     split
     · exact q2 (by omega)
     · exact add_spot (q2 (by omega)) _
   · rw [hlen] at hi'
     have hc : ¬ cap = lo := by omega
     rw [if_neg hc, add_block]
     obtain ⟨o1, o2, ds, o3, o4⟩ := q4 (lo + i) (by omega)
     refine ⟨o1, o2, ds, by rw [add_add (q2 (by omega)), ← Nat.add_mul]; exact o3, ?_⟩
     have : ((List.take hi xs).drop lo)[i]'(by rw [hlen]; exact hi') = xs[lo + i]'(by omega) := by simp
     rw [this]
     exact o4
theorem slice_sound {tab : Tab} (ht : TabOk P tab) (h : R g0 w0 N s g a w) {T : TypeId} {i : TI} (hi : tab.ti T = some i) {x : Operand} {lo hi' : Option Value} {l u : Option Int} (hl : BoundRep lo l) (hu : BoundRep hi' u) {K : TV → Option α}
  (hk : sliceV i s (s.ev x) l u K = some r) : ∃ v mv, K v = some r ∧ (∀ w, (Instr.sliceAt T (a.eval x) lo hi' none).run P w = .ok mv w) ∧ TRep g w s.sig v mv := by
 have hx := h.ev x
 have hok := (ht T i hi).kind
 unfold sliceV at hk
 split at hk
 · rename_i hty
   simp only [hty] at hok
   split at hk
   · rename_i v hv
     rw [hv] at hx
     split at hk
     · rename_i b hc
       have := castTo_some hc
       subst this
       obtain ⟨hg, hk⟩ := guardB_some hk
       simp only [Bool.and_eq_true, decide_eq_true_eq] at hg
       obtain ⟨⟨g1, g2⟩, g3⟩ := hg
       rw [hx.str]
       exact ⟨_, _, hk, fun w => run_slice_str (tab := tab) hok hl hu g1 g2 g3, TRep.mkStr _⟩
     · cases hk
   · cases hk
 · rename_i e hty
   simp only [hty] at hok
   obtain ⟨E, ie, ti, hU, hE, rfl, _⟩ := hok
   split at hk
   · rename_i v hv
     rw [hv] at hx
     split at hk
     · rename_i xs hc
       have := castTo_some hc
       subst this
       obtain ⟨hg, hk⟩ := guardB_some hk
       simp only [Bool.and_eq_true, decide_eq_true_eq] at hg
       obtain ⟨⟨g1, g2⟩, g3⟩ := hg
       obtain ⟨cs, h1, h2⟩ := hx.val
       obtain ⟨ad, cap, e1, e2, e3⟩ := h1.slice (lo := (l.getD 0).toNat) (hi := (u.getD (List.length xs)).toNat) (by omega) (by omega)
       rw [h2, e1]
       refine ⟨_, _, hk, fun w => run_slice ht hU hE hl hu g1 g2 (by omega), ?_⟩
       have key : ∀ ys : List ie.ty.den, ys = (List.take (u.getD (List.length xs)).toNat xs).drop (l.getD 0).toNat → ∀ mv, mv = wrap (.list ie.ty) [Value.slice (if cap = (l.getD 0).toNat then ad else ad.map (·.add ((l.getD 0).toNat * ie.ty.size))) ((u.getD (List.length xs)).toNat - (l.getD 0).toNat) (cap - (l.getD 0).toNat)] → TRep g w s.sig (.val ⟨.list ie.ty, ys⟩) mv :=
        fun ys e mv em => by subst e em; exact ⟨_, e3, rfl⟩
       refine key _ ?_ _ rfl
       cases u <;> cases l <;> simp
     · cases hk
   · rename_i hv
     rw [hv] at hx
     obtain ⟨hg, hk⟩ := guardB_some hk
     simp only [Bool.and_eq_true, decide_eq_true_eq] at hg
     obtain ⟨g1, g2⟩ := hg
     have hx : a.eval x = .slice none 0 0 := hx
     rw [hx]
     refine ⟨_, _, hk, fun w => run_slice ht hU hE (len := 0) (cap := 0) hl hu (by omega) (by simpa using by omega) (by simpa using by omega), ?_⟩
     have z1 : (l.getD 0).toNat = 0 := by omega
     have z2 : (u.getD ((0 : Nat) : Int)).toNat = 0 := by simp only [Int.natCast_zero]; omega
     rw [z1, z2]
     rfl
   · rename_i id p hv
     rw [hv] at hx
     obtain ⟨e1, t, e2⟩ := hx.ref
     split at hk
     · rename_i m v hs
       split at hk
       · rename_i xs hc
         have := castTo_some hc
         subst this
         obtain ⟨hg, hk⟩ := guardB_some hk
         simp only [Bool.and_eq_true, decide_eq_true_eq] at hg
         obtain ⟨⟨g1, g2⟩, g3⟩ := hg
         obtain ⟨sg, k1, k2⟩ := seen_sig hs
         have hty2 : ∀ sg', s.sig id = some sg' → tyAt sg'.ty p = some (.list ie.ty) ∧ RefAt g id sg' p := fun sg' hs' => by
          rw [k1] at hs'; injection hs' with hs'; subst hs'; exact ⟨k2, (e2 _ k1).2⟩
         obtain ⟨E', hE', _⟩ := h.header hs (fun sg hsg => (e2 sg hsg).2)
         rcases hE' with ⟨q1, q2⟩ | ⟨ad, cap, c, el, q1, q2, q3, q4, q5, q6, q7, q8⟩
         · have q2' : xs.length = 0 := q2
           rw [q2'] at g2 g3
           rw [e1, q1]
           refine ⟨_, _, hk, fun w => run_slice ht hU hE (len := 0) (cap := 0) hl hu g1 (by simpa using g2) (by simpa using g3), ⟨.list ie.ty, [.slice none 0 0], ⟨hty2, by rw [q2']; omega, .inl ⟨q1, by rw [q2']; omega, rfl⟩⟩, ?_⟩⟩
           have z1 : (l.getD 0).toNat = 0 := by omega
           have z2 : (u.getD ((0 : Nat) : Int)).toNat = 0 := by simp only [Int.natCast_zero] at g3 ⊢; omega
           rw [z1, z2]
           rfl
         · rw [e1, q1]
           refine ⟨_, _, hk, fun w => run_slice ht hU hE hl hu g1 g2 (by omega), ⟨.list ie.ty, _, ⟨hty2, by omega, .inr ⟨ad, _, cap, if cap = (l.getD 0).toNat then ad else ad.add ((l.getD 0).toNat * ie.ty.size), q1, q2, q5, by omega, fun hlt => by rw [if_neg (by omega)], by split <;> simp [add_block], by split <;> simp [q2, add_spot q2], by
            split
            · omega
            · rw [add_off]
              have := Nat.mul_le_mul_right ie.ty.size (show (l.getD 0).toNat ≤ cap by omega)
              omega, rfl⟩⟩, ?_⟩⟩
           rw [wrap_list]
           congr 1
           split <;> simp
       · cases hk
     · cases hk
   · rename_i id p lo' hi'' hv
     rw [hv] at hx
     obtain ⟨t, e1, e2, e3⟩ := hx.sub
     cases hb : decide (s.tyOf id p = some (.list ie.ty))
     · simp [hb] at hk
     · simp only [hb, cond_true] at hk
       simp only [decide_eq_true_eq] at hb
       obtain ⟨sg, k1, k2⟩ := tyOf_sig hb
       have f1 := (e1 sg k1).1
       rw [f1] at k2
       injection k2 with k2
       injection k2 with k2
       subst k2
       obtain ⟨hg, hk⟩ := guardB_some hk
       simp only [Bool.and_eq_true, decide_eq_true_eq] at hg
       obtain ⟨⟨g1, g2⟩, g3⟩ := hg
       have hcast : ((hi'' : Int) - lo') = ((hi'' - lo' : Nat) : Int) := by omega
       rw [hcast] at g2 g3 hk
       rcases e3 with ⟨q1, q2, q3⟩ | ⟨ad, len, cap, b, q1, q2, q3, q4, q5, q51, q52, q53, q6⟩
       · subst q2
         have : lo' = 0 := by omega
         subst this
         rw [q3]
         refine ⟨_, _, hk, fun w => run_slice ht hU hE (len := 0) (cap := 0) hl hu g1 (by simpa using g2) (by simpa using g3), ⟨.list ie.ty, [.slice none 0 0], ⟨e1, by omega, .inl ⟨q1, by omega, rfl⟩⟩, ?_⟩⟩
         have z1 : (l.getD 0).toNat = 0 := by omega
         have z2 : (u.getD ((0 : Nat) : Int)).toNat = 0 := by simp only [Nat.sub_self, Int.natCast_zero] at g3 ⊢; omega
         rw [z1, z2]
         rfl
       · rw [q6]
         refine ⟨_, _, hk, fun w => run_slice ht hU hE hl hu g1 g2 (by omega), ⟨.list ie.ty, _, ⟨e1, by omega, .inr ⟨ad, len, cap, if cap - lo' = (l.getD 0).toNat then b else b.add ((l.getD 0).toNat * ie.ty.size), q1, q2, q3, by omega, fun hlt => ?_, by split <;> simp [add_block, q51], by split <;> simp [q52, add_spot q52], ?_, rfl⟩⟩, ?_⟩⟩
         · rw [if_neg (by omega), q5 (by omega), add_add q2, ← Nat.add_mul]
         · split
           · exact q53
           · rename_i hc
             by_cases hlt : lo' < cap
             · rw [q5 hlt, add_off, add_off]
               have := Nat.mul_le_mul_right ie.ty.size (show lo' + (l.getD 0).toNat ≤ cap by omega)
               rw [Nat.add_mul] at this
               omega
             · exfalso; omega
         · rw [wrap_list]
           congr 1
           · split <;> simp
           · omega
           · omega
   · cases hk
 · cases hk
end
end Go.Ve
namespace Go.Ve
open Go Go.RowKit
def strip : List Step → List Step → Option (List Step)
 | [], r => some r
 | _ :: _, [] => none
 | a :: p, b :: r => if a = b then strip p r else none
theorem strip_some : ∀ {p r q : List Step}, strip p r = some q ↔ r = p ++ q
 | [], r, q => by simp [strip]
 | a :: p, [], q => by simp [strip]
 | a :: p, b :: r, q => by
  simp only [strip]
  split
  · rename_i e; subst e; rw [strip_some]; simp
  · rename_i e; simp only [List.cons_append, List.cons.injEq, reduceCtorEq, false_iff, not_and]; intro h; exact absurd h.symm e
theorem strip_app (p q : List Step) : strip p (p ++ q) = some q := strip_some.2 rfl
theorem strip_none {p r : List Step} (h : ∀ q, r ≠ p ++ q) : strip p r = none := by
 cases e : strip p r with
 | none => rfl
 | some q => exact absurd (strip_some.1 e) (h q)
def Gh.mv (g : Gh) (id : RId) (p : List Step) (id' : RId) (p' : List Step) : Gh where
 hdr i r := if i = id' then match strip p' r with
  | some z => g.hdr id (p ++ z)
  | none => g.hdr i r
  else g.hdr i r
 base := g.base
 own b := match g.own b with
  | some (i, some r) => if i = id then match strip p r with
   | some z => some (id', some (p' ++ z))
   | none => some (i, some r)
   else some (i, some r)
  | o => o
section
variable {g : Gh} {w : World} {id id' : RId} {p p' : List Step}
theorem mv_hdr (z : List Step) : (g.mv id p id' p').hdr id' (p' ++ z) = g.hdr id (p ++ z) := by simp [Gh.mv, strip_app]
theorem mv_own {b : Nat} {z : List Step} (h : g.own b = some (id, some (p ++ z))) : (g.mv id p id' p').own b = some (id', some (p' ++ z)) := by simp [Gh.mv, h, strip_app]
theorem mv_own_ne {b : Nat} {i : RId} {r : Option (List Step)} (hi : i ≠ id) (h : g.own b = some (i, r)) : (g.mv id p id' p').own b = some (i, r) := by
 cases r with
 | none => simp [Gh.mv, h]
 | some r => simp [Gh.mv, h, hi]
theorem mv_own_off {b : Nat} {r : Option (List Step)} (hr : ∀ z, r ≠ some (p ++ z)) (h : g.own b = some (id, r)) : (g.mv id p id' p').own b = some (id, r) := by
 cases r with
 | none => simp [Gh.mv, h]
 | some r =>
  have := strip_none (p := p) (r := r) (fun q e => hr q (by rw [e]))
  simp [Gh.mv, h, this]
theorem mv_hdr_ne {i : RId} (hi : i ≠ id') (r : List Step) : (g.mv id p id' p').hdr i r = g.hdr i r := by simp [Gh.mv, hi]
theorem mv_hdr_off {r : List Step} (hr : ∀ z, r ≠ p' ++ z) : (g.mv id p id' p').hdr id' r = g.hdr id' r := by simp [Gh.mv, strip_none hr]
theorem mv_none {b : Nat} (h : g.own b = none) : (g.mv id p id' p').own b = none := by simp [Gh.mv, h]
theorem mv_le : Le g w (g.mv id p id' p') w := ⟨rfl, rfl, rfl, Nat.le_refl _, fun b _ h => ⟨rfl, by simp [Gh.mv, h]⟩, fun b _ h => ⟨rfl, by simp [Gh.mv, h]⟩⟩
theorem mv_same {i : RId} (h1 : i ≠ id) (h2 : i ≠ id') : Same g w (g.mv id p id' p') w i := ⟨fun r => mv_hdr_ne h2 r, fun _ _ => rfl, fun b r h => ⟨rfl, mv_own_ne h1 h⟩⟩
theorem mv_moved {hl : Option (RId × List Step)} (hh : ∀ q, hl ≠ some (id, p ++ q)) (hh' : ∀ q, hl ≠ some (id', p' ++ q)) : Moved g w hl (g.mv id p id' p') w hl id p id' p' :=
 ⟨mv_hdr, fun b q h => ⟨rfl, mv_own h⟩, fun q => ⟨fun e => absurd e (hh' q), fun e => absurd e (hh q)⟩⟩
theorem off_step {q z : List Step} {s : Step} (hq : ∀ z, z ≠ [] → q ≠ p ++ z) (hne : q ≠ p) (hz : z ≠ []) : q ++ [s] ≠ p ++ z := by
 intro e'
 rcases List.eq_nil_or_concat z with rfl | ⟨z', s', rfl⟩
 · exact hz rfl
 · rw [List.concat_eq_append, ← List.append_assoc] at e'
   have := List.append_inj_left' e' rfl
   cases z' with
   | nil => exact hne (by simpa using this)
   | cons a z' => exact hq _ (by simp) this
theorem ORep.punch (hne : id' ≠ id) : ∀ (t : Ty) (m : Mask) (q : List Step) (x : t.den) (cs : List Value), (∀ z, z ≠ [] → q ≠ p ++ z) → (∀ z, p = q ++ z → ∃ e, tyAt t z = some (.list e)) → ORep g w none id t m q x cs → ORep (g.mv id p id' p') w (some (id, p)) id t m q x cs
 | .list t, .own m, q, xs, cs, hq, ht, h => by
  rcases h with ⟨h, _⟩ | ⟨_, h, h3⟩
  · cases h
  · by_cases e : q = p
    · subst e; exact .inl ⟨rfl, by rw [h]; rfl⟩
    · have hoff : ∀ z, q ≠ p ++ z := fun z => by
       cases z with
       | nil => simpa using e
       | cons a z => exact hq _ (by simp)
      refine .inr ⟨fun h => e (by injection h with h; injection h with _ h; exact h.symm), by rw [mv_hdr_ne (Ne.symm hne)]; exact h, ?_⟩
      rcases h3 with h3 | ⟨a, cap, c, el, h4, h5, h6, h7, h8, h9, h10, h11⟩
      · exact .inl (by rw [mv_hdr_ne (Ne.symm hne)]; exact h3)
      · refine .inr ⟨a, cap, c, el, by rw [mv_hdr_ne (Ne.symm hne)]; exact h4, h5, mv_own_off (fun z e => hoff z (by injection e)) h6, h7, h8, h9, h10, fun i hi => ?_⟩
        obtain ⟨ds, d1, hi', d2⟩ := h11 i hi
        exact ⟨ds, d1, hi', ORep.punch hne t m _ _ ds (fun z hz => off_step hq e hz) (fun z e => by
         obtain ⟨u, hu⟩ := ht (.idx i :: z) (by simpa using e)
         exact ⟨u, by simpa [tyAt, stepTy] using hu⟩) d2⟩
 | .prod a b, .prod ma mb, q, x, cs, hq, ht, ⟨c, d, e, h1, h2⟩ => by
  have e0 : q ≠ p := fun e => by
   obtain ⟨u, hu⟩ := ht [] (by simpa using e.symm)
   simp [tyAt] at hu
  exact ⟨c, d, e, ORep.punch hne a ma _ _ c (fun z hz => off_step hq e0 hz) (fun z e => by
   obtain ⟨u, hu⟩ := ht (.fst :: z) (by simpa using e)
   exact ⟨u, by simpa [tyAt, stepTy] using hu⟩) h1, ORep.punch hne b mb _ _ d (fun z hz => off_step hq e0 hz) (fun z e => by
   obtain ⟨u, hu⟩ := ht (.snd :: z) (by simpa using e)
   exact ⟨u, by simpa [tyAt, stepTy] using hu⟩) h2⟩
 | .list t, .shr, q, xs, cs, _, _, h => SRep.le mv_le (.list t) xs cs h
 | .list t, .prod _ _, q, xs, cs, _, _, h => SRep.le mv_le (.list t) xs cs h
 | .prod a b, .shr, q, x, cs, _, _, h => SRep.le mv_le (.prod a b) x cs h
 | .prod a b, .own _, q, x, cs, _, _, h => SRep.le mv_le (.prod a b) x cs h
 | .int k, _, q, x, cs, _, _, h => h
 | .bool, _, q, x, cs, _, _, h => h
 | .str, _, q, x, cs, _, _, h => h
 | .unit, _, q, x, cs, _, _, h => h
variable {g0 : Gh} {w0 : Fra} {N : Nat} {s : St} {a : Act}
theorem R.ghost (h : R g0 w0 N s g a w) {g' : Gh} (hl : Le g w g' w) (hv : ∀ b, g.own b = none → g'.own b = none) (hh : ∀ i r, g'.hdr (some i) r = g.hdr (some i) r) (hb : ∀ i, g'.base i = g.base i) {s' : St} (ht : ∀ t, s'.tmp t = s.tmp t ∨ s'.tmp t = .dead)
  (ho : ∀ id o, s'.obj id = some o → s.obj id = some o ∧ RootRep g' w s'.hl id o) : R g0 w0 N s' g' a w where
 frame := h.frame.trans hl
 tmps t := by
  rcases ht t with k | k <;> rw [k]
  · refine TRep.le hl _ _ (fun id _ => ⟨hh id, hb id, fun sg hs => ?_⟩) (h.tmps t)
    simp only [St.sig] at hs ⊢
    cases e : s'.obj id with
    | none => simp [e] at hs
    | some o => rw [(ho _ _ e).1]; rw [e] at hs; exact hs
  · trivial
 objs id o e := (ho id o e).2
 lives b o e := by
  cases k : g.own b with
  | none => rw [hv b k] at e; cases e
  | some o' => exact h.lives b o' k
 defers := h.defers
 size := h.size
 small := h.small
 ext id o e hi := by
  rw [hb, hh]
  exact h.ext id o (ho id o e).1 hi
theorem hl_ne {id : Id} (h : s.free id = true) (r : List Step) : s.hl ≠ some (some id, r) := by
 intro e
 unfold St.hl at e
 unfold St.free at h
 cases hh : s.hole with
 | none => simp [hh] at e
 | some x =>
  simp only [hh, Option.map_some, Option.some.injEq, Prod.mk.injEq] at e
  simp only [hh, Bool.not_eq_true'] at h
  rw [sameId_eq.2 e.1] at h
  cases h
theorem at_vec {id : Id} {m m' : Mask} {t : Ty} {xs : List t.den} {v : Val} (ho : s.obj id = some (.vec m t xs)) (h : s.at id [] = some (m', v)) : m' = .own m ∧ v = ⟨.list t, xs⟩ := by
 simp only [St.at, ho, Ob.root, get, Option.some.injEq, Prod.mk.injEq] at h
 exact ⟨h.1.symm, h.2.symm⟩
theorem purge_drop {id : Id} : (∀ t, ((s.purge id).drop id).tmp t = s.tmp t ∨ ((s.purge id).drop id).tmp t = .dead) ∧
  (∀ i o, ((s.purge id).drop id).obj i = some o → s.obj i = some o ∧ i ≠ id ∧ Ob.holds id (some o) = false) := by
 refine ⟨fun t => ?_, fun i o e => ?_⟩
 · simp only [St.drop, St.purge, St.kill]
   cases (s.tmp t).looks false id <;> simp
 · by_cases hi : i = id
   · subst hi; simp [St.drop, updI_same] at e
   · simp only [St.drop, updI_ne _ _ hi, St.purge] at e
     cases hb : Ob.holds id (s.obj i)
     · simp only [hb, cond_false] at e
       exact ⟨e, hi, by rw [← e]; exact hb⟩
     · simp [hb] at e
structure Float (g : Gh) (g' : Gh) (q : List Step) : Prop where
 hdr : ∀ r, (∀ z, r ≠ q ++ z) → g'.hdr none r = g.hdr none r
 own : ∀ b r, (∀ z, r ≠ q ++ z) → g.own b = some (none, some r) → g'.own b = some (none, some r)
 base : ∀ i, g'.base i = g.base i
 all : ∀ i r, g'.hdr (some i) r = g.hdr (some i) r
theorem take_vec (h : R g0 w0 N s g a w) {id : Id} {m : Mask} {t : Ty} {xs : List t.den} (ho : s.obj id = some (.vec m t xs)) (hf : s.free id = true) (q : List Step) :
  R g0 w0 N ((s.purge id).drop id) (g.mv (some id) [] none q) a w ∧ ORep (g.mv (some id) [] none q) w none none (.list t) (.own m) q xs [g.hdr (some id) []] ∧ Le g w (g.mv (some id) [] none q) w ∧ Float g (g.mv (some id) [] none q) q := by
 have hd := purge_drop (s := s) (id := id)
 refine ⟨h.ghost mv_le (fun _ => mv_none) (fun i r => mv_hdr_ne (by simp) r) (fun _ => rfl) hd.1 (fun i o e => ?_), ?_, mv_le, ⟨fun r hr => mv_hdr_off hr, fun b r _ e => mv_own_ne (by simp) e, fun _ => rfl, fun i r => mv_hdr_ne (by simp) r⟩⟩
 · obtain ⟨k1, k2, k3⟩ := hd.2 i o e
   refine ⟨k1, RootRep.same mv_le (mv_same (by simpa using k2) (by simp)) (fun _ => Iff.rfl) o (fun _ _ _ _ => rfl) (h.objs i o k1)⟩
 · have hob := h.objs id _ ho
   have : ORep g w s.hl (some id) (.list t) (.own m) [] xs [g.hdr (some id) []] := .inr ⟨hl_ne hf [], rfl, hob⟩
   exact ORep.move mv_le _ _ _ _ _ _ ⟨mv_hdr, fun b z e => ⟨rfl, mv_own e⟩, fun z => ⟨(fun e => by cases e), fun e => absurd e (hl_ne hf _)⟩⟩ this
theorem take_nested (h : R g0 w0 N s g a w) (hn : s.hole = none) {id : Id} {p : List Step} {m : Mask} {t : Ty} {xs : List t.den} (hat : s.at id p = some (.own m, ⟨.list t, xs⟩)) (hv : s.isVec id p = false)
  (hr : ∀ sg, s.sig id = some sg → RefAt g id sg p) (q : List Step) :
  R g0 w0 N { s with hole := some (id, p) } (g.mv (some id) p none q) a w ∧ ORep (g.mv (some id) p none q) w none none (.list t) (.own m) q xs [g.hdr (some id) p] ∧ Le g w (g.mv (some id) p none q) w ∧ Float g (g.mv (some id) p none q) q := by
 cases ho : s.obj id with
 | none => simp [St.at, ho] at hat
 | some o =>
  have hsg : s.sig id = some o.sig := by simp [St.sig, ho]
  have hc : ∃ c, AddrRoot g id o.sig p c := by
   rcases hr _ hsg with ⟨rfl, u, hu⟩ | hc
   · cases o with
     | vec _ _ _ => simp [St.isVec, ho] at hv
     | box _ _ => cases hu
     | fbox _ => cases hu
   · exact hc
  obtain ⟨c, hc⟩ := hc
  obtain ⟨_, _, _, ds, _, r4, r5⟩ := h.place hn hat (ad := c) (fun sg hs => by rw [hsg] at hs; injection hs with hs; subst hs; exact hc)
  have hty := r5 _ hsg
  have hds : ds = [g.hdr (some id) p] := by
   rcases r4 with ⟨r4, _⟩ | ⟨_, r4, _⟩
   · cases r4
   · exact r4
  subst hds
  refine ⟨h.ghost mv_le (fun _ => mv_none) (fun i r => mv_hdr_ne (by simp) r) (fun _ => rfl) (fun t => .inl rfl) (fun i o' e => ⟨e, ?_⟩), ?_, mv_le, ⟨fun r hr => mv_hdr_off hr, fun b r _ e => mv_own_ne (by simp) e, fun _ => rfl, fun i r => mv_hdr_ne (by simp) r⟩⟩
  · have eo : s.obj i = some o' := e
    clear e
    have hob := h.objs i o' eo
    rw [St.hl, hn] at hob
    by_cases hi : i = id
    · subst hi
      rw [ho] at eo
      injection eo with eo
      subst eo
      cases o with
      | fbox f => simp [St.at, ho, Ob.root] at hat
      | vec m' t' ys =>
       have hp : p ≠ [] := by rintro rfl; simp [St.isVec, ho] at hv
       have : ORep g w none (some i) (.list t') (.own m') [] ys [g.hdr (some i) []] := .inr ⟨by simp, rfl, hob⟩
       have k := ORep.punch (id' := none) (p := p) (p' := q) (by simp) _ _ _ _ _ (fun z hz e => by simp at e; exact hp e.1) (fun z e => ⟨t, by simp only [List.nil_append] at e; subst e; exact hty⟩) this
       rcases k with ⟨k, _⟩ | ⟨_, _, k⟩
       · injection k with k; injection k with _ k; exact absurd k hp
       · exact k
      | box m' v' =>
       obtain ⟨cs, c', e', h1, h2, h3, h4, h5⟩ := hob
       refine ⟨cs, c', e', h1, mv_own_off (fun z e => by cases e) h2, h3, h4, ?_⟩
       exact ORep.punch (by simp) _ _ _ _ _ (fun z hz e => by
        simp only [List.nil_eq, List.append_eq_nil_iff] at e; exact hz e.2) (fun z e => ⟨t, by simp only [List.nil_append] at e; subst e; exact hty⟩) h5
    · refine RootRep.same mv_le (mv_same (by simpa using hi) (by simp)) (fun r => ?_) o' (fun _ _ _ _ => rfl) hob
      constructor
      · intro e; injection e with e; injection e with e _; injection e with e; exact absurd e.symm hi
      · intro e; cases e
  · exact ORep.move mv_le _ _ _ _ _ _ (mv_moved (by simp) (by simp)) r4
def _root_.Go.Ve.Gh.cut (g : Gh) (id : RId) (lo : Nat) (id' : RId) (q : List Step) (hv : Value) : Gh where
 hdr i r := if i = id' then match strip q r with
  | some [] => hv
  | some (.idx j :: z) => g.hdr id (.idx (lo + j) :: z)
  | some z => g.hdr id z
  | none => g.hdr i r
  else g.hdr i r
 base := g.base
 own b := match g.own b with
  | some (i, some []) => if i = id then some (id', some q) else some (i, some [])
  | some (i, some (.idx j :: z)) => if i = id then (if lo ≤ j then some (id', some (q ++ .idx (j - lo) :: z)) else some (i, some (.idx j :: z))) else some (i, some (.idx j :: z))
  | o => o
theorem cut_own_ne {lo : Nat} {q : List Step} {hv : Value} {b : Nat} {i : RId} {r : Option (List Step)} (hi : i ≠ id) (h : g.own b = some (i, r)) : (g.cut id lo id' q hv).own b = some (i, r) := by
 cases r with
 | none => simp [Gh.cut, h]
 | some r =>
  cases r with
  | nil => simp [Gh.cut, h, hi]
  | cons x r => cases x <;> simp [Gh.cut, h, hi]
theorem cut_hdr_ne {lo : Nat} {q : List Step} {hv : Value} {i : RId} (hi : i ≠ id') (r : List Step) : (g.cut id lo id' q hv).hdr i r = g.hdr i r := by simp [Gh.cut, hi]
theorem cut_none {lo : Nat} {q : List Step} {hv : Value} {b : Nat} (h : g.own b = none) : (g.cut id lo id' q hv).own b = none := by simp [Gh.cut, h]
theorem cut_le {lo : Nat} {q : List Step} {hv : Value} : Le g w (g.cut id lo id' q hv) w := ⟨rfl, rfl, rfl, Nat.le_refl _, fun b _ h => ⟨rfl, by simp [Gh.cut, h]⟩, fun b _ h => ⟨rfl, by simp [Gh.cut, h]⟩⟩
theorem take_sub (h : R g0 w0 N s g a w) {id : Id} {m : Mask} {t : Ty} {xs : List t.den} (ho : s.obj id = some (.vec m t xs)) (hf : s.free id = true) {lo hi : Nat} {hv : Value} (hlo : lo ≤ hi)
  (hs : (g.hdr (some id) [] = .slice none 0 0 ∧ hi = 0 ∧ hv = .slice none 0 0) ∨
   ∃ a len cap b, g.hdr (some id) [] = .slice (some a) len cap ∧ a.spot = none ∧ len ≤ cap ∧ hi ≤ len ∧ (lo < cap → b = a.add (lo * t.size)) ∧ b.block = a.block ∧ b.spot = none ∧ b.off ≤ a.off + cap * t.size ∧ hv = .slice (some b) (hi - lo) (cap - lo)) (q : List Step) :
  R g0 w0 N ((s.purge id).drop id) (g.cut (some id) lo none q hv) a w ∧ ORep (g.cut (some id) lo none q hv) w none none (.list t) (.own m) q ((List.take hi xs).drop lo) [hv] ∧ Le g w (g.cut (some id) lo none q hv) w ∧ Float g (g.cut (some id) lo none q hv) q := by
 have hd := purge_drop (s := s) (id := id)
 have hdr0 : (g.cut (some id) lo none q hv).hdr none q = hv := by
  have : strip q q = some [] := strip_some.2 (by simp)
  simp [Gh.cut, this]
 refine ⟨h.ghost cut_le (fun _ => cut_none) (fun i r => cut_hdr_ne (by simp) r) (fun _ => rfl) hd.1 (fun i o e => ?_), ?_, cut_le, ⟨fun r hr => by simp [Gh.cut, strip_none hr], fun b r _ e => cut_own_ne (by simp) e, fun _ => rfl, fun i r => cut_hdr_ne (by simp) r⟩⟩
 · obtain ⟨k1, k2, k3⟩ := hd.2 i o e
   have hne : (some i : RId) ≠ some id := by simpa using k2
   refine ⟨k1, RootRep.same cut_le ⟨fun r => cut_hdr_ne (by simp) r, fun _ _ => rfl, fun b r h => ⟨rfl, cut_own_ne hne h⟩⟩ (fun _ => Iff.rfl) o (fun _ _ _ _ => rfl) (h.objs i o k1)⟩
 · have hob := h.objs id _ ho
   refine .inr ⟨by simp, by rw [hdr0], ?_⟩
   rcases hs with ⟨q1, q2, q3⟩ | ⟨ad, len, cap, b, q1, q2, q3, q4, q5, q6, q7, q8, q9⟩
   · subst q2
     exact .inl ⟨by rw [hdr0]; exact q3, by simp⟩
   · rcases hob with ⟨z1, _⟩ | ⟨a', cap', c, el, h4, h5, h6, h7, h8, h9, h10, h11⟩
     · rw [z1] at q1; cases q1
     · rw [q1] at h4
       injection h4 with h4 h4' h4''
       injection h4 with h4
       subst h4 h4' h4''
       have hlen : ((List.take hi xs).drop lo).length = hi - lo := by simp; omega
       have hown : (g.cut (some id) lo none q hv).own b.block = some (none, some q) := by rw [q6]; simp [Gh.cut, h6]
       refine .inr ⟨b, cap - lo, c, el, by rw [hdr0, q9, hlen], q7, hown, by rw [q6]; exact h7, by rw [hlen]; omega, by omega, ?_, fun i hi' => ?_⟩
       · by_cases hc : lo < cap
         · rw [q5 hc, add_off]
           have : lo * t.size + (cap - lo) * t.size = cap * t.size := by rw [← Nat.add_mul]; congr 1; omega
           omega
         · have : cap - lo = 0 := by omega
           rw [this]
           omega
       · rw [hlen] at hi'
         obtain ⟨ds, d1, hi'', d2⟩ := h11 (lo + i) (by omega)
         refine ⟨ds, by rw [q5 (by omega), add_add q2, ← Nat.add_mul]; exact d1, by rw [hlen]; exact hi', ?_⟩
         have : ((List.take hi xs).drop lo)[i]'(by rw [hlen]; exact hi') = xs[lo + i]'(by omega) := by simp
         rw [this]
         refine ORep.move cut_le _ _ _ _ _ _ ⟨fun z => ?_, fun b z e => ⟨rfl, ?_⟩, fun z => ⟨(fun e => by cases e), fun e => absurd e (hl_ne hf _)⟩⟩ d2
         · have : strip q (q ++ [.idx i] ++ z) = some (.idx i :: z) := strip_some.2 (by simp)
           simp only [Gh.cut, if_true, this, List.cons_append, List.nil_append]
         · simp only [Gh.cut, e]
           simp
def _root_.Go.Ve.Gh.cutF (g : Gh) (lo : Nat) (q : List Step) (hv : Value) : Gh where
 hdr i r := if i = none then match strip q r with
  | some [] => hv
  | some (.idx j :: z) => g.hdr none (q ++ .idx (lo + j) :: z)
  | _ => g.hdr i r
  else g.hdr i r
 base := g.base
 own b := match g.own b with
  | some (none, some r) => match strip q r with
   | some (.idx j :: z) => if lo ≤ j then some (none, some (q ++ .idx (j - lo) :: z)) else some (none, none)
   | _ => some (none, some r)
  | o => o
theorem cutF_own_ne {lo : Nat} {q : List Step} {hv : Value} {b : Nat} {i : Id} {r : Option (List Step)} (h : g.own b = some (some i, r)) : (g.cutF lo q hv).own b = some (some i, r) := by simp [Gh.cutF, h]
theorem cutF_hdr_ne {lo : Nat} {q : List Step} {hv : Value} (i : Id) (r : List Step) : (g.cutF lo q hv).hdr (some i) r = g.hdr (some i) r := by simp [Gh.cutF]
theorem cutF_none {lo : Nat} {q : List Step} {hv : Value} {b : Nat} (h : g.own b = none) : (g.cutF lo q hv).own b = none := by simp [Gh.cutF, h]
theorem cutF_le {lo : Nat} {q : List Step} {hv : Value} : Le g w (g.cutF lo q hv) w := ⟨rfl, rfl, rfl, Nat.le_refl _, fun b _ h => ⟨rfl, by simp [Gh.cutF, h]⟩, fun b _ h => ⟨rfl, by simp [Gh.cutF, h]⟩⟩
theorem cut_float (h : R g0 w0 N s g a w) {q : List Step} {m : Mask} {t : Ty} {xs : List t.den} {cs : List Value} (hO : ORep g w none none (.list t) (.own m) q xs cs) {lo hi : Nat} {hv : Value} (hlo : lo ≤ hi)
  (hs : (g.hdr none q = .slice none 0 0 ∧ hi = 0 ∧ hv = .slice none 0 0) ∨
   ∃ a len cap b, g.hdr none q = .slice (some a) len cap ∧ a.spot = none ∧ len ≤ cap ∧ hi ≤ len ∧ (lo < cap → b = a.add (lo * t.size)) ∧ b.block = a.block ∧ b.spot = none ∧ b.off ≤ a.off + cap * t.size ∧ hv = .slice (some b) (hi - lo) (cap - lo)) :
  R g0 w0 N s (g.cutF lo q hv) a w ∧ ORep (g.cutF lo q hv) w none none (.list t) (.own m) q ((List.take hi xs).drop lo) [hv] ∧ Le g w (g.cutF lo q hv) w ∧ (∀ r, (∀ z, r ≠ q ++ z) → (g.cutF lo q hv).hdr none r = g.hdr none r) ∧
   (∀ b r, (∀ z, r ≠ q ++ z) → g.own b = some (none, some r) → (g.cutF lo q hv).own b = some (none, some r)) := by
 have hdr0 : (g.cutF lo q hv).hdr none q = hv := by
  have : strip q q = some [] := strip_some.2 (by simp)
  simp [Gh.cutF, this]
 refine ⟨h.ghost cutF_le (fun _ => cutF_none) (fun i r => cutF_hdr_ne i r) (fun _ => rfl) (fun t => .inl rfl) (fun i o e => ?_), ?_, cutF_le, fun r hr => by simp [Gh.cutF, strip_none hr], fun b r hr e => by simp [Gh.cutF, e, strip_none hr]⟩
 · exact ⟨e, RootRep.same cutF_le ⟨fun r => cutF_hdr_ne i r, fun _ _ => rfl, fun b r h => ⟨rfl, cutF_own_ne h⟩⟩ (fun _ => Iff.rfl) o (fun _ _ _ _ => rfl) (h.objs i o e)⟩
 · rcases hO with ⟨z, _⟩ | ⟨_, _, hob⟩
   · cases z
   refine .inr ⟨by simp, by rw [hdr0], ?_⟩
   rcases hs with ⟨q1, q2, q3⟩ | ⟨ad, len, cap, b, q1, q2, q3, q4, q5, q6, q7, q8, q9⟩
   · subst q2
     exact .inl ⟨by rw [hdr0]; exact q3, by simp⟩
   · rcases hob with ⟨z1, _⟩ | ⟨a', cap', c, el, h4, h5, h6, h7, h8, h9, h10, h11⟩
     · rw [z1] at q1; cases q1
     · rw [q1] at h4
       injection h4 with h4 h4' h4''
       injection h4 with h4
       subst h4 h4' h4''
       have hlen : ((List.take hi xs).drop lo).length = hi - lo := by simp; omega
       have hown : (g.cutF lo q hv).own b.block = some (none, some q) := by
        have : strip q q = some [] := strip_some.2 (by simp)
        rw [q6]; simp [Gh.cutF, h6, this]
       refine .inr ⟨b, cap - lo, c, el, by rw [hdr0, q9, hlen], q7, hown, by rw [q6]; exact h7, by rw [hlen]; omega, by omega, ?_, fun i hi' => ?_⟩
       · by_cases hc : lo < cap
         · rw [q5 hc, add_off]
           have : lo * t.size + (cap - lo) * t.size = cap * t.size := by rw [← Nat.add_mul]; congr 1; omega
           omega
         · have : cap - lo = 0 := by omega
           rw [this]
           omega
       · rw [hlen] at hi'
         obtain ⟨ds, d1, hi'', d2⟩ := h11 (lo + i) (by omega)
         refine ⟨ds, by rw [q5 (by omega), add_add q2, ← Nat.add_mul]; exact d1, by rw [hlen]; exact hi', ?_⟩
         have : ((List.take hi xs).drop lo)[i]'(by rw [hlen]; exact hi') = xs[lo + i]'(by omega) := by simp
         rw [this]
         refine ORep.move cutF_le _ _ _ _ _ _ ⟨fun z => ?_, fun b z e => ⟨rfl, ?_⟩, fun z => ⟨(fun e => by cases e), (fun e => by cases e)⟩⟩ d2
         · simp only [List.append_assoc, List.cons_append, List.nil_append]
           simp only [Gh.cutF, if_true, strip_app q (.idx i :: z)]
         · simp only [List.append_assoc, List.cons_append, List.nil_append] at e ⊢
           simp only [Gh.cutF, e, strip_app q (.idx (lo + i) :: z), Nat.le_add_right, if_true, Nat.add_sub_cancel_left]
theorem sameSteps_eq : ∀ {p q : List Step}, sameSteps p q = true → p = q
 | [], [], _ => rfl
 | .fst :: p, .fst :: q, h => by rw [sameSteps_eq (p := p) (q := q) h]
 | .snd :: p, .snd :: q, h => by rw [sameSteps_eq (p := p) (q := q) h]
 | .idx i :: p, .idx j :: q, h => by
  simp only [sameSteps, Bool.and_eq_true] at h
  rw [sameSteps_eq h.2, Nat.eq_of_beq_eq_true h.1]
 | .arr i :: p, .arr j :: q, h => by
  simp only [sameSteps, Bool.and_eq_true] at h
  rw [sameSteps_eq h.2, Nat.eq_of_beq_eq_true h.1]
 | [], _ :: _, h => by simp [sameSteps] at h
 | x :: _, [], h => by cases x <;> simp [sameSteps] at h
 | .fst :: _, .snd :: _, h => by simp [sameSteps] at h
 | .fst :: _, .idx _ :: _, h => by simp [sameSteps] at h
 | .fst :: _, .arr _ :: _, h => by simp [sameSteps] at h
 | .snd :: _, .fst :: _, h => by simp [sameSteps] at h
 | .snd :: _, .idx _ :: _, h => by simp [sameSteps] at h
 | .snd :: _, .arr _ :: _, h => by simp [sameSteps] at h
 | .idx _ :: _, .fst :: _, h => by simp [sameSteps] at h
 | .idx _ :: _, .snd :: _, h => by simp [sameSteps] at h
 | .idx _ :: _, .arr _ :: _, h => by simp [sameSteps] at h
 | .arr _ :: _, .fst :: _, h => by simp [sameSteps] at h
 | .arr _ :: _, .snd :: _, h => by simp [sameSteps] at h
 | .arr _ :: _, .idx _ :: _, h => by simp [sameSteps] at h
theorem take_box (h : R g0 w0 N s g a w) {id : Id} {m : Mask} {v : Val} (ho : s.obj id = some (.box m v)) (hf : s.free id = true) (q : List Step) :
  ∃ cs, R g0 w0 N ((s.purge id).drop id) (g.mv (some id) [] none q) a w ∧ ORep (g.mv (some id) [] none q) w none none v.t m q v.x cs ∧ cellsAt w (g.base id) cs ∧ Le g w (g.mv (some id) [] none q) w ∧ Float g (g.mv (some id) [] none q) q := by
 have hd := purge_drop (s := s) (id := id)
 have hob := h.objs id _ ho
 obtain ⟨cs, c, e, h1, h2, h3, h4, h5⟩ := hob
 refine ⟨cs, h.ghost mv_le (fun _ => mv_none) (fun i r => mv_hdr_ne (by simp) r) (fun _ => rfl) hd.1 (fun i o e => ?_), ?_, h4, mv_le, ⟨fun r hr => mv_hdr_off hr, fun b r _ e => mv_own_ne (by simp) e, fun _ => rfl, fun i r => mv_hdr_ne (by simp) r⟩⟩
 · obtain ⟨k1, k2, k3⟩ := hd.2 i o e
   refine ⟨k1, RootRep.same mv_le (mv_same (by simpa using k2) (by simp)) (fun _ => Iff.rfl) o (fun _ _ _ _ => rfl) (h.objs i o k1)⟩
 · exact ORep.move mv_le _ _ [] q _ _ ⟨mv_hdr, fun b z e => ⟨rfl, mv_own e⟩, fun z => ⟨(fun e => by cases e), fun e => absurd e (hl_ne hf _)⟩⟩ h5
theorem takeIn_sound {id : Id} {g' : Gh} {q : List Step} (hle : Le g w g' w) (hh : ∀ r, g'.hdr none (q ++ r) = g.hdr (some id) r) : ∀ (A : TV) (m : Mask) (t : Ty) (x : t.den) (r : List Step) (u : Ty) (cs ds : List Value) (m' : Mask) (v' : Val),
  takeIn id A m t x r = some (m', v') → ORep g' w none none t m (q ++ r) x ds → TC g w s.sig A u cs → ORep g' w none none v'.t m' (q ++ r) v'.x cs
 | .val v, m, t, x, r, u, cs, ds, m', v', ht, ho, hc => by
  simp only [takeIn, Option.some.injEq, Prod.mk.injEq] at ht
  obtain ⟨rfl, rfl⟩ := ht
  exact ORep.shr.2 (hc.2.le hle)
 | .ref i p, m, t, x, r, u, cs, ds, m', v', ht, ho, hc => by
  cases m <;> cases t <;> simp only [takeIn] at ht <;> try (cases ht; done)
  rename_i m t
  cases hs : (sameId i id && sameSteps p r)
  · simp [hs] at ht
  · simp only [hs, cond_true, Option.some.injEq, Prod.mk.injEq] at ht
    obtain ⟨rfl, rfl⟩ := ht
    simp only [Bool.and_eq_true] at hs
    have e1 := sameId_eq.1 hs.1
    have e2 := sameSteps_eq hs.2
    subst e1 e2
    cases u <;> simp only [TC] at hc
    rw [hc.1]
    rcases ho with ⟨k, _⟩ | ⟨_, k1, k2⟩
    · cases k
    · rw [k1, hh] at *
      exact .inr ⟨by simp, by rw [hh], k2⟩
 | .pr A B, m, t, x, r, u, cs, ds, m', v', ht, ho, hc => by
  cases t <;> simp only [takeIn] at ht <;> try (cases ht; done)
  rename_i ta tb
  split at ht <;> try (cases ht; done)
  rename_i ma va h1
  split at ht <;> try (cases ht; done)
  rename_i mb vb h2
  simp only [Option.some.injEq, Prod.mk.injEq] at ht
  obtain ⟨rfl, rfl⟩ := ht
  cases u <;> simp only [TC] at hc
  obtain ⟨c, d, rfl, _, _, hA, hB⟩ := hc
  obtain ⟨c', d', e, o1, o2⟩ := ho.split
  have k1 := takeIn_sound hle hh A m.fst ta x.1 (r ++ [.fst]) _ c c' ma va h1 (by simpa [List.append_assoc] using o1) hA
  have k2 := takeIn_sound hle hh B m.snd tb x.2 (r ++ [.snd]) _ d d' mb vb h2 (by simpa [List.append_assoc] using o2) hB
  exact ORep.mk (x := (va.x, vb.x)) (by simpa [List.append_assoc] using k1) (by simpa [List.append_assoc] using k2)
 | .nil, m, t, x, r, u, cs, ds, m', v', ht, ho, hc => by simp [takeIn] at ht
 | .sub _ _ _ _, m, t, x, r, u, cs, ds, m', v', ht, ho, hc => by simp [takeIn] at ht
 | .dead, m, t, x, r, u, cs, ds, m', v', ht, ho, hc => by simp [takeIn] at ht
 | .addr _ _, m, t, x, r, u, cs, ds, m', v', ht, ho, hc => by simp [takeIn] at ht
 | .saddr _, m, t, x, r, u, cs, ds, m', v', ht, ho, hc => by simp [takeIn] at ht
 | .fn _, m, t, x, r, u, cs, ds, m', v', ht, ho, hc => by simp [takeIn] at ht
 | .nilfn, m, t, x, r, u, cs, ds, m', v', ht, ho, hc => by simp [takeIn] at ht
 | .tup _, m, t, x, r, u, cs, ds, m', v', ht, ho, hc => by simp [takeIn] at ht
 | .tad _, m, t, x, r, u, cs, ds, m', v', ht, ho, hc => by simp [takeIn] at ht
theorem takeBox_sound (h : R g0 w0 N s g a w) {A : TV} {m : Mask} {v : Val} {s' : St} (ht : s.takeBox A = some (m, v, s')) {t : Ty} {cs : List Value} (hc : TC g w s.sig A t cs) (q : List Step) :
  ∃ g', R g0 w0 N s' g' a w ∧ ORep g' w none none v.t m q v.x cs ∧ Le g w g' w ∧ Float g g' q ∧ (∀ id o, s'.obj id = some o → s.obj id = some o) := by
 unfold St.takeBox at ht
 split at ht <;> try (cases ht; done)
 split at ht <;> try (cases ht; done)
 rename_i id _
 split at ht <;> try (cases ht; done)
 rename_i m0 v0 ho
 cases hf : s.free id
 · simp [hf] at ht
 · simp only [hf, cond_true] at ht
   split at ht <;> try (cases ht; done)
   rename_i m' v' htk
   simp only [Option.some.injEq, Prod.mk.injEq] at ht
   obtain ⟨rfl, rfl, rfl⟩ := ht
   obtain ⟨ds, b1, b2, _, b4, b5⟩ := take_box h ho hf q
   have := takeIn_sound (s := s) (id := id) (q := q) b4 (fun r => mv_hdr (p := []) r) A m0 v0.t v0.x [] t cs ds m' v' htk (by simpa using b2) hc
   exact ⟨_, b1, by simpa using this, b4, b5, fun i o e => (purge_drop.2 i o e).1⟩
theorem take_sound : ∀ (A : TV) (want t : Ty) (cs : List Value) (s s' : St) (g : Gh) (q : List Step) (m : Mask) (v : Val), s.take want A = some (m, v, s') → R g0 w0 N s g a w → TC g w s.sig A t cs →
  ∃ g', R g0 w0 N s' g' a w ∧ ORep g' w none none v.t m q v.x cs ∧ Le g w g' w ∧ Float g g' q ∧ (∀ id o, s'.obj id = some o → s.obj id = some o)
 | .val v0, want, t, cs, s, s', g, q, m, v, ht, h, hc => by
  simp only [St.take, Option.some.injEq, Prod.mk.injEq] at ht
  obtain ⟨rfl, rfl, rfl⟩ := ht
  obtain ⟨rfl, hc⟩ := hc
  exact ⟨g, h, ORep.shr.2 hc, Le.refl _ _, ⟨fun _ _ => rfl, fun _ _ _ h => h, fun _ => rfl, fun _ _ => rfl⟩, fun _ _ h => h⟩
 | .nil, want, t, cs, s, s', g, q, m, v, ht, h, hc => by
  cases want <;> simp only [St.take, Option.some.injEq, Prod.mk.injEq] at ht <;> try (cases ht; done)
  obtain ⟨rfl, rfl, rfl⟩ := ht
  cases t <;> simp only [TC] at hc
  subst hc
  let g' : Gh := { g with hdr := fun i r => if i = none ∧ r = q then .slice none 0 0 else g.hdr i r }
  have hle : Le g w g' w := ⟨rfl, rfl, rfl, Nat.le_refl _, fun b _ h => ⟨rfl, h⟩, fun b _ h => ⟨rfl, h⟩⟩
  have hall : ∀ i r, g'.hdr (some i) r = g.hdr (some i) r := fun i r => by simp [g']
  have h0 : g'.hdr none q = .slice none 0 0 := by simp [g']
  refine ⟨g', h.ghost hle (fun _ h => h) hall (fun _ => rfl) (fun _ => .inl rfl) (fun i o e => ⟨e, RootRep.same hle ⟨hall i, fun _ _ => rfl, fun _ _ h => ⟨rfl, h⟩⟩ (fun _ => Iff.rfl) o (fun _ _ _ _ => rfl) (h.objs i o e)⟩),
   .inr ⟨by simp, by rw [h0], .inl ⟨h0, rfl⟩⟩, hle, ⟨fun r hr => ?_, fun _ _ _ h => h, fun _ => rfl, hall⟩, fun _ _ h => h⟩
  have : ¬ r = q := fun e => hr [] (by simpa using e)
  simp [g', this]
 | .ref id p, want, t, cs, s, s', g, q, m, v, ht, h, hc => by
  cases t <;> simp only [TC] at hc
  obtain ⟨rfl, hr⟩ := hc
  simp only [St.take] at ht
  split at ht
  · rename_i hv
    split at ht
    · rename_i m' t' xs ho
      cases hf : s.free id
      · simp [hf] at ht
      · simp only [hf, cond_true, Option.some.injEq, Prod.mk.injEq] at ht
        obtain ⟨rfl, rfl, rfl⟩ := ht
        have hp : p = [] := by
         cases p with
         | nil => rfl
         | cons _ _ => simp [St.isVec] at hv
        subst hp
        obtain ⟨k1, k2, k3, k4⟩ := take_vec h ho hf q
        exact ⟨_, k1, k2, k3, k4, fun i o e => ((purge_drop (s := s) (id := id)).2 i o e).1⟩
    · cases ht
  · rename_i hv
    split at ht
    · rename_i hn
      split at ht
      · rename_i m' t' xs hat
        simp only [Option.some.injEq, Prod.mk.injEq] at ht
        obtain ⟨rfl, rfl, rfl⟩ := ht
        obtain ⟨k1, k2, k3, k4⟩ := take_nested h hn hat hv (fun sg hs => (hr sg hs).2) q
        exact ⟨_, k1, k2, k3, k4, fun i o e => e⟩
      · cases ht
    · cases ht
 | .sub id p lo hi, want, t, cs, s, s', g, q, m, v, ht, h, hc => by
  cases t <;> simp only [TC] at hc
  rename_i te
  obtain ⟨hr, hlo, hs⟩ := hc
  simp only [St.take] at ht
  split at ht
  · rename_i hiv
    split at ht
    · rename_i m' t' xs ho
      have hp : p = [] := by
       cases p with
       | nil => rfl
       | cons _ _ => simp [St.isVec] at hiv
      subst hp
      cases hf : s.free id
      · simp [hf] at ht
      · simp only [hf, cond_true, Option.some.injEq, Prod.mk.injEq] at ht
        obtain ⟨rfl, rfl, rfl⟩ := ht
        have hte := (hr (.vec t') (by simp [St.sig, ho]; rfl)).1
        simp only [Sig.ty, tyAt, Option.some.injEq, Ty.list.injEq] at hte
        subst hte
        have hs' : ∃ hv, cs = [hv] ∧ ((g.hdr (some id) [] = .slice none 0 0 ∧ hi = 0 ∧ hv = .slice none 0 0) ∨
         ∃ a len cap b, g.hdr (some id) [] = .slice (some a) len cap ∧ a.spot = none ∧ len ≤ cap ∧ hi ≤ len ∧ (lo < cap → b = a.add (lo * t'.size)) ∧ b.block = a.block ∧ b.spot = none ∧ b.off ≤ a.off + cap * t'.size ∧ hv = .slice (some b) (hi - lo) (cap - lo)) := by
         rcases hs with ⟨q1, q2, q3⟩ | ⟨ad, len, cap, b, q1, q2, q3, q4, q5, q6, q7, q8, q9⟩
         · exact ⟨_, q3, .inl ⟨q1, q2, rfl⟩⟩
         · exact ⟨_, q9, .inr ⟨ad, len, cap, b, q1, q2, q3, q4, q5, q6, q7, q8, rfl⟩⟩
        obtain ⟨hv, rfl, hs2⟩ := hs'
        obtain ⟨k1, k2, k3, k4⟩ := take_sub h ho hf hlo hs2 q
        exact ⟨_, k1, k2, k3, k4, fun i o e => ((purge_drop (s := s) (id := id)).2 i o e).1⟩
    · cases ht
  · rename_i hiv
    split at ht
    · rename_i hn
      split at ht
      · rename_i m' t' xs hat
        simp only [Option.some.injEq, Prod.mk.injEq] at ht
        obtain ⟨rfl, rfl, rfl⟩ := ht
        obtain ⟨k1, k2, k3, k4⟩ := take_nested h hn hat hiv (fun sg hsg => (hr sg hsg).2) q
        have hse : s.seen id p = some (.own m', ⟨.list t', xs⟩) := by simp only [St.seen, hn]; exact hat
        obtain ⟨sg, e1, e2⟩ := seen_sig hse
        have hte : te = t' := by
         have h1 := (hr sg e1).1
         rw [e2] at h1
         injection h1 with h1
         injection h1 with h1
         exact h1.symm
        subst hte
        have hm : (g.mv (some id) p none q).hdr none q = g.hdr (some id) p := by have := mv_hdr (g := g) (id := some id) (p := p) (id' := none) (p' := q) []; simpa using this
        have hs' : ∃ hv, cs = [hv] ∧ (((g.mv (some id) p none q).hdr none q = .slice none 0 0 ∧ hi = 0 ∧ hv = .slice none 0 0) ∨
         ∃ a len cap b, (g.mv (some id) p none q).hdr none q = .slice (some a) len cap ∧ a.spot = none ∧ len ≤ cap ∧ hi ≤ len ∧ (lo < cap → b = a.add (lo * te.size)) ∧ b.block = a.block ∧ b.spot = none ∧ b.off ≤ a.off + cap * te.size ∧ hv = .slice (some b) (hi - lo) (cap - lo)) := by
         rw [hm]
         rcases hs with ⟨q1, q2, q3⟩ | ⟨ad, len, cap, b, q1, q2, q3, q4, q5, q6, q7, q8, q9⟩
         · exact ⟨_, q3, .inl ⟨q1, q2, rfl⟩⟩
         · exact ⟨_, q9, .inr ⟨ad, len, cap, b, q1, q2, q3, q4, q5, q6, q7, q8, rfl⟩⟩
        obtain ⟨hv, rfl, hs2⟩ := hs'
        obtain ⟨j1, j2, j3, j4, j5⟩ := cut_float k1 k2 hlo hs2
        exact ⟨_, j1, j2, k3.trans j3, ⟨fun r hr => (j4 r hr).trans (k4.hdr r hr), fun b r hr e => j5 b r hr (k4.own b r hr e), k4.base, fun i r => (cutF_hdr_ne i r).trans (k4.all i r)⟩, fun i o e => e⟩
      · cases ht
    · cases ht
 | .pr A B, want, t, cs, s, s', g, q, m, v, ht, h, hc => by
  cases t <;> simp only [TC] at hc
  rename_i ta tb
  have hc' : TC g w s.sig (.pr A B) (.prod ta tb) cs := hc
  obtain ⟨c, d, rfl, l1, l2, hA, hB⟩ := hc
  rw [St.take.eq_def] at ht
  simp only at ht
  split at ht
  · rename_i r hr
    simp only [Option.some.injEq] at ht
    subst ht
    exact takeBox_sound h hr hc' q
  cases want <;> simp only at ht <;> try (cases ht; done)
  rename_i wa wb
  split at ht
  · rename_i ma va s1 h1
    split at ht
    · rename_i mb vb s2 h2
      simp only [Option.some.injEq, Prod.mk.injEq] at ht
      obtain ⟨rfl, rfl, rfl⟩ := ht
      obtain ⟨g1, r1, o1, e1, f1, n1⟩ := take_sound A wa ta c s s1 g (q ++ [.fst]) ma va h1 h hA
      have hB' : TC g1 w s1.sig B tb d := hB.le e1 _ _ _ (fun id _ => ⟨f1.all id, f1.base id, fun sg hs => by
       simp only [St.sig] at hs ⊢
       cases e : s1.obj id with
       | none => simp [e] at hs
       | some o => rw [n1 _ _ e]; rw [e] at hs; exact hs⟩)
      obtain ⟨g2, r2, o2, e2, f2, n2⟩ := take_sound B wb tb d s1 s2 g1 (q ++ [.snd]) mb vb h2 r1 hB'
      refine ⟨g2, r2, ?_, e1.trans e2, ⟨fun r hr => ?_, fun b r hr e => f2.own b r (fun z e' => hr (.snd :: z) (by simp [e'])) (f1.own b r (fun z e' => hr (.fst :: z) (by simp [e'])) e), fun i => (f2.base i).trans (f1.base i), fun i r => (f2.all i r).trans (f1.all i r)⟩, fun i o e => n1 i o (n2 i o e)⟩
      · have o1' : ORep g2 w none none va.t ma (q ++ [.fst]) va.x c := by
         refine ORep.move e2 _ _ _ _ _ _ ⟨fun z => f2.hdr _ (fun z' e => ?_), fun b z e => ⟨rfl, f2.own b _ (fun z' e' => ?_) e⟩, fun z => Iff.rfl⟩ o1
         · simp only [List.append_assoc] at e
           have := List.append_cancel_left e
           simp at this
         · simp only [List.append_assoc] at e'
           have := List.append_cancel_left e'
           simp at this
        exact ORep.mk (x := (va.x, vb.x)) o1' o2
      · rw [f2.hdr r (fun z e => hr (.snd :: z) (by simp [e])), f1.hdr r (fun z e => hr (.fst :: z) (by simp [e]))]
    · cases ht
  · cases ht
 | .dead, want, t, cs, s, s', g, q, m, v, ht, h, hc => by cases want <;> simp [St.take] at ht
 | .addr _ _, want, t, cs, s, s', g, q, m, v, ht, h, hc => by cases want <;> simp [St.take] at ht
 | .saddr _, want, t, cs, s, s', g, q, m, v, ht, h, hc => by cases want <;> simp [St.take] at ht
 | .fn _, want, t, cs, s, s', g, q, m, v, ht, h, hc => by cases want <;> simp [St.take] at ht
 | .nilfn, want, t, cs, s, s', g, q, m, v, ht, h, hc => by cases want <;> simp [St.take] at ht
 | .tup _, want, t, cs, s, s', g, q, m, v, ht, h, hc => by cases want <;> simp [St.take] at ht
 | .tad _, want, t, cs, s, s', g, q, m, v, ht, h, hc => by cases want <;> simp [St.take] at ht
end
end Go.Ve
