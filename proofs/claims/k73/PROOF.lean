import PyProof.Rows.All
import Wide.All
import OpenK.AllK
import Wide.FinOn
import HandS.ForMost
import HandS.Exc
import HandS.Deep
import HandS.Flow
import HandS.Wide
import HandS.Gcd
import HandS.IsInst
import HandS.Style
import HandS.Conv
import HandS.Zip
import HandS.Defaults
import KE.DataCmp
import HandS.TupAny
import HandS.TupMul
import HandS.ExcOwn
import HandS.ExcField
import HandS.ExcInit
import HandS.HeadHook1
import KE.GoesEnum
import KE.GoesZip
import KE.GoesMore
import HandS.MakeKwOnly
import HandS.More
import HandS.HeadWalk
import HandS.CallRecv
import HandS.SortRule
import HandS.SortInts
import HandS.Head0
import HandS.Head1
import HandS.Head2
import HandS.Head3
import HandS.HeadEnd
import HandS.HeadHook2
import HandS.HeadHook3
import PySem.Challenge.RW_oddscall_k73_graphs_of_grammars
set_option Elab.async false
set_option linter.all false
set_option maxRecDepth 100000
set_option maxHeartbeats 0
namespace EV
open PySem L2

/-! ### data: what a value stands for -/
/-- a key: a whole number or a text; what stands at a tuple of keys has a list of them -/
inductive Ky where
  | i (n : Int)
  | s (x : List Nat)
  deriving DecidableEq
inductive D where
  | non | bl (b : Bool) | int (i : Int) | str (s : List Nat)
  | tup (ds : List D) | lst (ds : List D)
  | obj (c : Nat) (ds : List D)
  | loc (n : Nat)
  | strm
  | ext (ds : List Int)
  | ktp (q : List Ky)

inductive Cell where
  | lst (ds : List D)
  | dct (t : Bool) (kvs : List (List Ky × D))
  | ins (c : Nat) (fs : List (Nat × D))

structure Sto where
  st : Option (List Int × Int × Int)
  cs : List Cell

structure Xn where
  c : Nat
  ds : List D

inductive Slot where
  | val (d : D)
  | own (ds : List D)
  | dic (kvs : List (D × D))

abbrev Sg := List (Option Slot)

inductive Res (α : Type) where
  | ok (a : α) (z : Sto)
  | exn (x : Xn) (z : Sto)
  | err

def Res.bind {α β : Type} : Res α → (α → Sto → Res β) → Res β
  | .ok a z, f => f a z
  | .exn x z, _ => .exn x z
  | .err, _ => .err

@[simp] theorem Res.bind_ok {α β : Type} (a : α) (z : Sto) (f : α → Sto → Res β) : (Res.ok a z).bind f = f a z := rfl
@[simp] theorem Res.bind_exn {α β : Type} (x : Xn) (z : Sto) (f : α → Sto → Res β) : (Res.exn x z : Res α).bind f = .exn x z := rfl
@[simp] theorem Res.bind_err {α β : Type} (f : α → Sto → Res β) : (Res.err : Res α).bind f = .err := rfl

def lift {α : Type} (o : Option α) (z : Sto) : Res α := match o with
  | some a => .ok a z
  | none => .err
@[simp] theorem lift_some {α : Type} (a : α) (z : Sto) : lift (some a) z = .ok a z := rfl
@[simp] theorem lift_none {α : Type} (z : Sto) : lift (none : Option α) z = .err := rfl

/-! ### codes -/
/-- what an except suite answers: a field of what was raised, a text, None, tuples and lists of such -/
inductive Xe where
  | fld (k : Nat) | str (s : List Nat) | non | nil | cons (a r : Xe) | tup (a : Xe) | lst (a : Xe)
structure Hd where
  h : Nat
  tb : List Bool
  i : Nat
  e : Xe
inductive Bop | add | sub | mul | fdiv | mod | pow
  deriving DecidableEq
inductive Cop | eq | ne | lt | le | gt | ge | inn | nin
  deriving DecidableEq
inductive Bi | len | abs | int | gcd | list | tuple | sum | all | any | max2
  deriving DecidableEq
inductive Ty | int | bool | str | tuple | list
  deriving DecidableEq

mutual
inductive Tg where
  | nm (i : Nat)
  | tp (ts : Tgs)
inductive Tgs where
  | nil
  | cons (t : Tg) (ts : Tgs)
end

mutual
inductive C where
  | var (i : Nat) | bor (i : Nat)
  | non | bl (b : Bool) | int (i : Int) | str (s : List Nat)
  | glo (g : Nat)
  | tup (es : Cs) | lst (es : Cs)
  | bin (o : Bop) (a b : C)
  | neg (a : C)
  | cmp (o : Cop) (a b : C)
  | chn (o p : Cop) (a b c : C)
  | isN (n : Bool) (a : C)
  | isB (n : Bool) (b : Bool) (a : C)
  | and (a b : C) | or (a b : C) | one (a : C)
  | not (a : C)
  | ite (c a b : C)
  | idx (a i : C)
  | slc (a lo hi : C) | slcL (a lo : C) | slcH (a hi : C)
  | call (f : Nat) (es : Cs)
  | bi (b : Bi) (es : Cs)
  | isi (t : Ty) (a : C)
  | strm (a : C)
  | comp (t : Tg) (it : I) (e : C)
  | compI (t : Tg) (it : I) (c e : C)
  | comp2 (t : Tg) (it : I) (t2 : Tg) (it2 : I) (e : C)
  | attr (a : C) (c k : Nat)
  | meth (c f : Nat) (a : C) (es : Cs)
  | make (c f : Nat) (es : Cs)
  | newD (t : Bool)
  | dget (t : Bool) (d k : C)
  | dgetD (t : Bool) (d k x : C)
  | din (t n : Bool) (k d : C)
  | sjoin (a b : C)
  | newL (e : C)
  | lenL (e : C)
  | isiL (t : Ty) (e : C)
  | isiC (c : Nat) (e : C)
  | makeK (c f : Nat) (es : Cs)
  | kget (g : Nat) (kvs : List (List Nat × Int)) (k x : C)
  | srt (e : C)
  | scnt (a b : C)
  | srfd (a b : C)
  | slcHL (e hi : C)
  | ktt (es : Cs)
  | ktv (c : C)
inductive Cs where
  | nil
  | cons (e : C) (es : Cs)
inductive I where
  | seq (e : C)
  | rng1 (e : C)
  | rng2 (a b : C)
  | enum (e : C)
  | zip (a b : C)
end

mutual
inductive S where
  | set (i : Nat) (e : C)
  | own (i : Nat) (e : C)
  | app (i : Nat) (e : C)
  | ext (i : Nat) (e : C)
  | setI (i : Nat) (k e : C)
  | stI (i : Nat) (k : Nat) (e : C)
  | aug (i : Nat) (o : Bop) (e : C)
  | tset (t : Tg) (e : C)
  | par (i j : Nat) (a b : C)
  | ex (e : C)
  | ret (e : C)
  | retN
  | ife (c : C) (a b : Ss)
  | whl (c : C) (b : Ss)
  | for_ (t : Tg) (it : I) (b : Ss)
  | brk | cnt | pas
  | rai
  | frz (i : Nat)
  | setA (i c k : Nat) (e : C)
  | dput (t : Bool) (d k e : C)
  | appC (e x : C)
  | raise (c : Nat) (es : Cs)
  | tryx (b : Ss) (hs : List Hd)
inductive Ss where
  | nil
  | cons (s : S) (ss : Ss)
end

/-! ### operations on data -/
def kyD : Ky → D
  | .i n => .int n
  | .s x => .str x
mutual
def D.eqv : D → D → Bool
  | .non, .non => true
  | .bl a, .bl b => a == b
  | .bl a, .int j => (if a then 1 else 0) == j
  | .int i, .bl b => i == (if b then 1 else 0)
  | .int i, .int j => i == j
  | .str x, .str y => x == y
  | .lst xs, .lst ys => D.eqvs xs ys
  | .tup xs, .tup ys => D.eqvs xs ys
  | .ktp p, .ktp q => decide (p = q)
  | .ktp p, .tup ys => D.eqvk p ys
  | .tup xs, .ktp q => D.eqvk q xs
  | _, _ => false
def D.eqvs : List D → List D → Bool
  | [], [] => true
  | x :: xs, y :: ys => D.eqv x y && D.eqvs xs ys
  | _, _ => false
def D.eqvk : List Ky → List D → Bool
  | [], [] => true
  | .i n :: ks, d :: ds => (match d with
    | .int m => n == m
    | .bl b => n == (if b then 1 else 0)
    | _ => false) && D.eqvk ks ds
  | .s x :: ks, d :: ds => (match d with
    | .str y => x == y
    | _ => false) && D.eqvk ks ds
  | _, _ => false
end
mutual
/-- no object, no cell, no stream within -/
def D.pln : D → Bool
  | .non | .bl _ | .int _ | .str _ | .ktp _ => true
  | .tup ds | .lst ds => D.plns ds
  | .obj _ _ | .loc _ | .strm | .ext _ => false
def D.plns : List D → Bool
  | [] => true
  | d :: ds => D.pln d && D.plns ds
end
mutual
/-- no list and no frozen object within -/
def D.nol : D → Bool
  | .non | .bl _ | .int _ | .str _ | .loc _ | .strm | .ktp _ => true
  | .tup ds => D.nols ds
  | .lst _ | .obj _ _ | .ext _ => false
def D.nols : List D → Bool
  | [] => true
  | d :: ds => D.nol d && D.nols ds
end
mutual
/-- no cell within -/
def D.noc : D → Bool
  | .non | .bl _ | .int _ | .str _ | .strm | .ext _ | .ktp _ => true
  | .tup ds | .lst ds | .obj _ ds => D.nocs ds
  | .loc _ => false
def D.nocs : List D → Bool
  | [] => true
  | d :: ds => D.noc d && D.nocs ds
end
mutual
def D.dep : D → Nat
  | .tup ds | .lst ds => D.deps ds + 1
  | .ktp _ => 1
  | _ => 0
def D.deps : List D → Nat
  | [] => 0
  | d :: ds => Nat.max (D.dep d) (D.deps ds)
end
mutual
/-- no stream within -/
def D.nos : D → Bool
  | .non | .bl _ | .int _ | .str _ | .loc _ | .ext _ | .ktp _ => true
  | .tup ds | .lst ds | .obj _ ds => D.noss ds
  | .strm => false
def D.noss : List D → Bool
  | [] => true
  | d :: ds => D.nos d && D.noss ds
end
mutual
/-- no cell from the n-th on within -/
def D.lb (n : Nat) : D → Bool
  | .non | .bl _ | .int _ | .str _ | .strm | .ext _ | .ktp _ => true
  | .tup ds | .lst ds | .obj _ ds => D.lbs n ds
  | .loc m => decide (m < n)
def D.lbs (n : Nat) : List D → Bool
  | [] => true
  | d :: ds => D.lb n d && D.lbs n ds
end
def Cell.lb (n : Nat) : Cell → Bool
  | .lst ds => D.lbs n ds
  | .dct _ kvs => kvs.all fun p => p.2.lb n
  | .ins _ fs => fs.all fun p => p.2.lb n
def Cell.nol : Cell → Bool
  | .lst ds => D.nols ds
  | .dct _ kvs => kvs.all fun p => p.2.nol
  | .ins _ fs => fs.all fun p => p.2.nol
def Cell.nos : Cell → Bool
  | .lst ds => D.noss ds
  | .dct _ kvs => kvs.all fun p => p.2.nos
  | .ins _ fs => fs.all fun p => p.2.nos
/-- behind a call: cells that nothing holds are dropped -/
def trim (n : Nat) (d : D) (cs : List Cell) : List Cell := if d.lb n && (cs.take n).all (Cell.lb n) then cs.take n else cs
def keyOne : D → Option Ky
  | .int i => some (.i i)
  | .str s => some (.s s)
  | _ => none
def keysOf : List D → Option (List Ky)
  | [] => some []
  | d :: ds => (keyOne d).bind fun k => (keysOf ds).map (k :: ·)
def keyD (t : Bool) (d : D) : Option (List Ky) := match t, d with
  | true, .tup ds => keysOf ds
  | false, d => (keyOne d).map ([·])
  | _, _ => none
def dFind (kvs : List (List Ky × D)) (k : List Ky) : Option D := (kvs.find? fun p => decide (p.1 = k)).map (·.2)
def dPut (kvs : List (List Ky × D)) (k : List Ky) (d : D) : List (List Ky × D) := if kvs.any fun p => decide (p.1 = k) then kvs.map fun p => if p.1 = k then (p.1, d) else p else kvs ++ [(k, d)]
def putN (k : Nat) (d : D) : List (Nat × D) → List (Nat × D)
  | [] => [(k, d)]
  | (j, x) :: r => if j = k then (j, d) :: r else (j, x) :: putN k d r
def getN (k : Nat) : List (Nat × D) → Option D
  | [] => none
  | (j, x) :: r => if j = k then some x else getN k r
def dctAt (z : Sto) (t : Bool) : D → Option (Nat × List (List Ky × D))
  | .loc n => (match z.cs[n]? with
    | some (.dct t' kvs) => if t' = t then some (n, kvs) else none
    | _ => none)
  | _ => none
def insAt (z : Sto) (c : Nat) : D → Option (Nat × List (Nat × D))
  | .loc n => (match z.cs[n]? with
    | some (.ins c' fs) => if c' = c then some (n, fs) else none
    | _ => none)
  | _ => none
def D.flat : D → Bool
  | .non | .bl _ | .int _ | .str _ => true
  | _ => false

def lim : Nat := 2 ^ 24
def eqD (a b : D) : Option Bool :=
  if a.pln && b.pln && decide (Nat.min a.dep b.dep ≤ 64) then some (D.eqv a b) else none
def inD (a b : D) : Option Bool := match b with
  | .str y => (match a with
    | .str [c] => some (decide (c ∈ y))
    | .str x => some (!(Builtin.Str.occurrences ⟨y.toArray⟩ ⟨x.toArray⟩ 0 y.length 1).isEmpty)
    | _ => none)
  | .lst ds => if a.pln && D.plns ds && decide (Nat.min (D.deps ds) a.dep ≤ 64) then some (ds.any fun z => D.eqv z a) else none
  | .tup ds => if a.pln && D.plns ds && decide (Nat.min (D.deps ds) a.dep ≤ 64) then some (ds.any fun z => D.eqv z a) else none
  | _ => none
def kyPd : Ky → PyData
  | .i n => .int n
  | .s l => .str ⟨l.toArray⟩
mutual
def D.pd : D → PyData
  | .bl b => .bool b
  | .int i => .int i
  | .str l => .str ⟨l.toArray⟩
  | .tup ds => .tuple (D.pds ds)
  | .ktp q => .tuple (q.map kyPd)
  | .lst ds => .list (D.pds ds)
  | _ => .none
def D.pds : List D → List PyData
  | [] => []
  | d :: ds => D.pd d :: D.pds ds
end
/-- the order of lists: n false is <, n true is <= -/
def ordD (n : Bool) (a b : D) : Option Bool := match a, b with
  | .lst x, .lst y => if (D.plns x && D.plns y) && (decide (Nat.min (D.deps x) (D.deps y) ≤ 60) && PySem.W.alike (.list (D.pds x)) (.list (D.pds y))) then some (if n then !PySem.W.dataLt (.list (D.pds y)) (.list (D.pds x)) else PySem.W.dataLt (.list (D.pds x)) (.list (D.pds y))) else none
  | _, _ => none
/-- what a list in a cell holds, or the thing itself -/
def derC (z : Sto) : D → D
  | .loc n => (match z.cs[n]? with
    | some (.lst ds) => .lst ds
    | _ => .loc n)
  | d => d
def cmpD (o : Cop) (a b : D) : Option Bool := match o with
  | .eq => eqD a b
  | .ne => (eqD a b).map (!·)
  | .inn => inD a b
  | .nin => (inD a b).map (!·)
  | .lt => (match a, b with
    | .int i, .int j => some (decide (i < j))
    | a, b => ordD false a b)
  | .le => (match a, b with
    | .int i, .int j => some (decide (i ≤ j))
    | a, b => ordD true a b)
  | .gt => (match a, b with
    | .int i, .int j => some (decide (j < i))
    | _, _ => none)
  | .ge => (match a, b with
    | .int i, .int j => some (decide (j ≤ i))
    | _, _ => none)
def rep (ds : List D) (k : Int) : List D := (List.replicate k.toNat ds).flatten
def binD (o : Bop) (a b : D) : Option D := match o, a, b with
  | .add, .int i, .int j => some (.int (i + j))
  | .add, .str x, .str y => if x.length + y.length ≤ lim then some (.str (x ++ y)) else none
  | .add, .lst x, .lst y => if x.length + y.length ≤ lim then some (.lst (x ++ y)) else none
  | .add, .tup x, .tup y => if x.length + y.length ≤ lim then some (.tup (x ++ y)) else none
  | .sub, .int i, .int j => some (.int (i - j))
  | .mul, .int i, .int j => if i.natAbs.log2 + j.natAbs.log2 < 1000000 then some (.int (i * j)) else none
  | .mul, .lst x, .int k => if x.length * k.toNat ≤ lim ∧ -(2 ^ 63) ≤ k ∧ k < 2 ^ 63 then some (.lst (rep x k)) else none
  | .mul, .tup x, .int k => if x ≠ [] ∧ 1 ≤ k ∧ k ≤ 1000 ∧ x.length ≤ 1000 then some (.tup (rep x k)) else none
  | .fdiv, .int i, .int j => if j ≠ 0 ∧ (j.natAbs < 1073741824 ∨ (0 < j ∧ j.natAbs.log2 < 9000)) then some (.int (i.fdiv j)) else none
  | .mod, .int i, .int j => if j ≠ 0 then some (.int (i.fmod j)) else none
  | .pow, .int i, .int j => if 0 ≤ j ∧ j ≤ 1000 ∧ i.natAbs < 2 ^ 64 then some (.int (i ^ j.toNat)) else none
  | _, _, _ => none
def truD : D → Option Bool
  | .non => some false
  | .bl b => some b
  | .int i => some (i != 0)
  | .str s => some (!s.isEmpty)
  | .tup ds => some (!ds.isEmpty)
  | .lst ds => some (!ds.isEmpty)
  | .ktp ds => some (!ds.isEmpty)
  | _ => none
def idxD (z : Sto) (a i : D) : Option D := match a, i with
  | .tup ds, .int k => atI ds k
  | .lst ds, .int k => atI ds k
  | .str s, .int k => (atI s k).map fun c => .str [c]
  | .ktp q, .int k => (atI q k).map kyD
  | .loc n, .int k => (match z.cs[n]? with
    | some (.lst ds) => atI ds k
    | _ => none)
  | .strm, .int k => (match z.st with
    | some (xs, c, n) => if k = 0 then some (.lst (xs.map D.int)) else if k = 1 then some (.int c) else if k = 2 then some (.int n) else none
    | none => none)
  | _, _ => none
def cut {α : Type} (l : List α) (lo hi : Option Int) : List α := (l.drop (HT.sIx l.length 0 lo)).take (HT.sIx l.length l.length hi - HT.sIx l.length 0 lo)
def slcD (a : D) (lo hi : Option Int) : Option D := match a with
  | .str s => some (.str (cut s lo hi))
  | .lst ds => some (.lst (cut ds lo hi))
  | .tup ds => some (.tup (cut ds lo hi))
  | .ktp q => some (.ktp (cut q lo hi))
  | _ => none
def intD : D → Option (Option Int)
  | .int i => some (some i)
  | _ => none
def lenD : D → Option Nat
  | .str s => some s.length
  | .tup ds => some ds.length
  | .lst ds => some ds.length
  | .ktp q => some q.length
  | _ => none
def intsOf : List D → Option (List Int)
  | [] => some []
  | .int i :: r => (intsOf r).map (i :: ·)
  | _ => none
def boolsOf : List D → Option (List Bool)
  | [] => some []
  | .bl i :: r => (boolsOf r).map (i :: ·)
  | _ => none
def biD (b : Bi) (ds : List D) : Option D := match b, ds with
  | .len, [a] => (lenD a).map fun (n : Nat) => D.int (n : Int)
  | .abs, [.int i] => some (.int (if i < 0 then -i else i))
  | .int, [.int i] => some (.int i)
  | .int, [.bl b] => some (.int (if b then 1 else 0))
  | .gcd, [.int i, .int j] => some (.int (Nat.gcd i.natAbs j.natAbs : Nat))
  | .list, [.lst ds] => some (.lst ds)
  | .list, [.tup ds] => some (.lst ds)
  | .list, [.ext ds] => some (.lst (ds.map D.int))
  | .tuple, [.lst ds] => some (.tup ds)
  | .tuple, [.tup ds] => some (.tup ds)
  | .sum, [.lst ds] => (intsOf ds).map fun (l : List Int) => D.int l.sum
  | .all, [.lst ds] => (boolsOf ds).map fun (l : List Bool) => D.bl (l.all id)
  | .any, [.lst ds] => (boolsOf ds).map fun (l : List Bool) => D.bl (l.any id)
  | .max2, [.int i, .int j] => some (.int (if j > i then j else i))
  | _, _ => none
def strsOf : List D → Option (List (List Nat))
  | [] => some []
  | .str s :: r => (strsOf r).map (s :: ·)
  | _ => none
/-- texts with a text between them -/
def joinS (x : List Nat) : List (List Nat) → List Nat
  | [] => []
  | [p] => p
  | p :: q :: r => p ++ (x ++ joinS x (q :: r))
def joinD (x : List Nat) (b : D) : Option D := match b with
  | .lst ds => (strsOf ds).bind fun ys => if (ys.map (·.length)).sum + ys.length * x.length ≤ lim then some (.str (joinS x ys)) else none
  | .tup ds => (strsOf ds).bind fun ys => if (ys.map (·.length)).sum + ys.length * x.length ≤ lim then some (.str (joinS x ys)) else none
  | _ => none
def isiD (t : Ty) (a : D) : Option Bool := match a with
  | .non => some false
  | .bl _ => some (t == .bool || t == .int)
  | .int _ => some (t == .int)
  | .str _ => some (t == .str)
  | .tup _ => some (t == .tuple)
  | .lst _ => some (t == .list)
  | .ktp _ => some (t == .tuple)
  | _ => none

/-- flat: no list, no cell, no stream within -/
def D.fl (d : D) : Bool := d.nol && d.noc && d.nos
mutual
def Xe.ev (ds : List D) : Xe → Option D
  | .fld k => ds[k]?
  | .str s => some (.str s)
  | .non => some .non
  | .tup a => (Xe.evs ds a).map .tup
  | .lst a => (Xe.evs ds a).map .lst
  | .nil => none
  | .cons _ _ => none
def Xe.evs (ds : List D) : Xe → Option (List D)
  | .nil => some []
  | .cons a r => (Xe.ev ds a).bind fun d => (Xe.evs ds r).map (d :: ·)
  | _ => none
end
/-- the handler that takes it -/
def hit : List Hd → Nat → Option Hd
  | [], _ => none
  | h :: hs, c => if h.tb.getD c false then some h else hit hs c
def isiCD (z : Sto) (c : Nat) (d : D) : Option Bool := match d with
  | .loc n => (match z.cs[n]? with
    | some (.ins c' _) => if c' = c then some true else none
    | _ => none)
  | .non | .bl _ | .int _ | .str _ | .tup _ | .lst _ | .ktp _ => some false
  | _ => none
/-- sorted: whole numbers, pairs of whole numbers -/
def insI (a : Int) : List Int → List Int
  | [] => [a]
  | b :: r => if a ≤ b then a :: b :: r else b :: insI a r
def srtI : List Int → List Int
  | [] => []
  | a :: r => insI a (srtI r)
def pairsOf : List D → Option (List (Int × Int))
  | [] => some []
  | .ktp [.i a, .i b] :: r => (pairsOf r).map ((a, b) :: ·)
  | _ => none
def leP (a b : Int × Int) : Bool := decide (a.1 < b.1) || (decide (a.1 = b.1) && decide (a.2 ≤ b.2))
def insP (a : Int × Int) : List (Int × Int) → List (Int × Int)
  | [] => [a]
  | b :: r => if leP a b then a :: b :: r else b :: insP a r
def srtP : List (Int × Int) → List (Int × Int)
  | [] => []
  | a :: r => insP a (srtP r)
def srtD (d : D) : Option D := match d with
  | .lst ds => (match intsOf ds with
    | some l => some (.lst ((srtI l).map D.int))
    | none => (pairsOf ds).map fun l => .lst ((srtP l).map fun p => .ktp [.i p.1, .i p.2]))
  | _ => none
/-- how often a sign stands in a text; the place of the last one -/
def cntC (s : List Nat) (c : Nat) : Int := ((s.filter (· == c)).length : Nat)
def rfdC : List Nat → Nat → Int
  | [], _ => -1
  | x :: r, c => if rfdC r c ≠ -1 then rfdC r c + 1 else if x == c then 0 else -1
/-! ### targets -/
mutual
def asgT : Tg → D → Sg → Option Sg
  | .nm i, d, σ => some (σ.set i (some (.val d)))
  | .tp ts, d, σ => (match d with
    | .tup ds => asgTs ts ds σ
    | .ktp q => asgTs ts (q.map kyD) σ
    | _ => none)
def asgTs : Tgs → List D → Sg → Option Sg
  | .nil, [], σ => some σ
  | .cons t ts, d :: ds, σ => (asgT t d σ).bind fun σ => asgTs ts ds σ
  | _, _, _ => none
end
mutual
def Tg.slots : Tg → List Nat
  | .nm i => [i]
  | .tp ts => ts.slots
def Tgs.slots : Tgs → List Nat
  | .nil => []
  | .cons t ts => t.slots ++ ts.slots
end
def wipeE (σ : Sg) : List Nat → Sg
  | [] => σ
  | v :: vs => (wipeE σ vs).set v none
/-- no slot of these holds an own list -/
def freeAt (σ : Sg) (vs : List Nat) : Bool := vs.all fun i => match σ[i]? with
  | some (some (.own _)) => false
  | some (some (.dic _)) => false
  | _ => true

/-! ### the evaluator -/
inductive Iv where
  | l (ds : List D)
  | r (lo : Int) (n : Nat)
inductive Fl where
  | nx (σ : Sg)
  | rt (d : D)
  | bk (σ : Sg)
  | ct (σ : Sg)
  | xx (x : Xn) (σ : Sg)
/-- an expression's end in a statement: an exception becomes a way out -/
def bS {α : Type} (r : Res α) (σ : Sg) (f : α → Sto → Res Fl) : Res Fl := match r with
  | .ok a z => f a z
  | .exn x z => .ok (.xx x σ) z
  | .err => .err
@[simp] theorem bS_ok {α : Type} (a : α) (z : Sto) (σ : Sg) (f : α → Sto → Res Fl) : bS (.ok a z) σ f = f a z := rfl
@[simp] theorem bS_exn {α : Type} (x : Xn) (z : Sto) (σ : Sg) (f : α → Sto → Res Fl) : bS (.exn x z : Res α) σ f = .ok (.xx x σ) z := rfl
@[simp] theorem bS_err {α : Type} (σ : Sg) (f : α → Sto → Res Fl) : bS (.err : Res α) σ f = .err := rfl
structure Cxt where
  cl : Nat → List D → Sto → Res D
  con : List D
  W : Nat

def peek (σ : Sg) (i : Nat) : Option D := match σ[i]? with
  | some (some (.val d)) => some d
  | some (some (.own ds)) => some (.lst ds)
  | _ => none
def isBor : C → Bool
  | .bor _ => true
  | _ => false
def hasBor : Cs → Bool
  | .nil => false
  | .cons e es => isBor e || hasBor es

/-- a comprehension's walk over a list, over a range: f gives the items that a turn adds -/
def goL (f : D → Sto → Res (List D)) : List D → Sto → Res (List D)
  | [], z => .ok [] z
  | d :: ds, z => (f d z).bind fun a z => (goL f ds z).bind fun b z => .ok (a ++ b) z
def goR (f : D → Sto → Res (List D)) : Int → Nat → Sto → Res (List D)
  | _, 0, z => .ok [] z
  | lo, n + 1, z => (f (.int lo) z).bind fun a z => (goR f (lo + 1) n z).bind fun b z => .ok (a ++ b) z
def goI (f : D → Sto → Res (List D)) : Iv → Sto → Res (List D)
  | .l ds, z => goL f ds z
  | .r lo n, z => goR f lo n z
/-- a for's walk -/
def forL (f : D → Sg → Sto → Res Fl) : List D → Sg → Sto → Res Fl
  | [], σ, z => .ok (.nx σ) z
  | d :: ds, σ, z => (f d σ z).bind fun fl z => match fl with
    | .nx σ => forL f ds σ z
    | .ct σ => forL f ds σ z
    | .bk σ => .ok (.nx σ) z
    | fl => .ok fl z
def forR (f : D → Sg → Sto → Res Fl) : Int → Nat → Sg → Sto → Res Fl
  | _, 0, σ, z => .ok (.nx σ) z
  | lo, n + 1, σ, z => (f (.int lo) σ z).bind fun fl z => match fl with
    | .nx σ => forR f (lo + 1) n σ z
    | .ct σ => forR f (lo + 1) n σ z
    | .bk σ => .ok (.nx σ) z
    | fl => .ok fl z
def forI (f : D → Sg → Sto → Res Fl) : Iv → Sg → Sto → Res Fl
  | .l ds, σ, z => forL f ds σ z
  | .r lo n, σ, z => forR f lo n σ z
def whlF (c : Sg → Sto → Res Bool) (f : Sg → Sto → Res Fl) : Nat → Sg → Sto → Res Fl
  | 0, _, _ => .err
  | n + 1, σ, z => bS (c σ z) σ fun b z => match b with
    | false => .ok (.nx σ) z
    | true => (f σ z).bind fun fl z => match fl with
      | .nx σ => whlF c f n σ z
      | .ct σ => whlF c f n σ z
      | .bk σ => .ok (.nx σ) z
      | fl => .ok fl z
/-- a call: a stream that the callee does not get stays as it is; hb: own lists are lent -/
def callE (cl : Sto → Res D) (hb : Bool) (ds : List D) (z : Sto) : Res D :=
  if D.noss ds && (z.st.isSome && z.cs.all Cell.nos) then (match cl ⟨none, z.cs⟩ with
    | .ok d z' => if ((d.nol && z'.cs.all Cell.nol) || !hb) && z'.st.isNone then .ok d ⟨z.st, trim z.cs.length d z'.cs⟩ else .err
    | .exn x z' => if (z'.cs.all Cell.nol || !hb) && z'.st.isNone then .exn x ⟨z.st, trim z.cs.length (.tup x.ds) z'.cs⟩ else .err
    | .err => .err)
  else if hb then (if z.st.isSome then .err else match cl z with
    | .ok d z' => if (d.nol && z'.cs.all Cell.nol) && z'.st.isNone then .ok d ⟨z.st, trim z.cs.length d z'.cs⟩ else .err
    | .exn x z' => if z'.cs.all Cell.nol && z'.st.isNone then .exn x ⟨z.st, trim z.cs.length (.tup x.ds) z'.cs⟩ else .err
    | .err => .err)
  else if D.noss ds then (match cl z with
    | .ok d z' => .ok d ⟨z'.st, trim z.cs.length d z'.cs⟩
    | .exn x z' => .exn x ⟨z'.st, trim z.cs.length (.tup x.ds) z'.cs⟩
    | .err => .err)
  else cl z
def fin (vs : List D) (z : Sto) : Res D := if vs.length ≤ lim then .ok (.lst vs) z else .err
def inComp (r : Res D) : Res D := match r with
  | .exn _ _ => .err
  | r => r

section
variable (Z : Cxt)
mutual
def evE : C → Sg → Sto → Res D
  | .var i, σ, z => (match σ[i]? with
    | some (some (.val d)) => .ok d z
    | _ => .err)
  | .bor i, σ, z => lift (peek σ i) z
  | .non, _, z => .ok .non z
  | .bl b, _, z => .ok (.bl b) z
  | .int i, _, z => .ok (.int i) z
  | .str s, _, z => .ok (.str s) z
  | .glo g, _, z => lift (Z.con[g]?) z
  | .tup es, σ, z => (evEs es σ z).bind fun ds z => .ok (.tup ds) z
  | .lst es, σ, z => (evEs es σ z).bind fun ds z => .ok (.lst ds) z
  | .bin o a b, σ, z => (evE a σ z).bind fun x z => (evE b σ z).bind fun y z => lift (binD o x y) z
  | .neg a, σ, z => (evE a σ z).bind fun x z => (match x with
    | .int i => .ok (.int (-i)) z
    | _ => .err)
  | .cmp o a b, σ, z => (evE a σ z).bind fun x z => (evE b σ z).bind fun y z => (lift (cmpD o x y) z).bind fun k z => .ok (.bl k) z
  | .chn o p a b c, σ, z => (evE a σ z).bind fun x z => (evE b σ z).bind fun y z => (lift (cmpD o x y) z).bind fun k z => match k with
    | false => .ok (.bl false) z
    | true => (evE c σ z).bind fun w z => (lift (cmpD p y w) z).bind fun k z => .ok (.bl k) z
  | .isN n a, σ, z => (evE a σ z).bind fun x z => (match x with
    | .non => .ok (.bl (!n)) z
    | _ => .ok (.bl n) z)
  | .isB n b a, σ, z => (evE a σ z).bind fun x z => (match x with
    | .bl c => .ok (.bl (if n then c != b else c == b)) z
    | _ => .err)
  | .and a b, σ, z => (evE a σ z).bind fun x z => (lift (truD x) z).bind fun k z => match k with
    | true => evE b σ z
    | false => .ok x z
  | .or a b, σ, z => (evE a σ z).bind fun x z => (lift (truD x) z).bind fun k z => match k with
    | true => .ok x z
    | false => evE b σ z
  | .one a, σ, z => evE a σ z
  | .not a, σ, z => (evE a σ z).bind fun x z => (lift (truD x) z).bind fun k z => .ok (.bl (!k)) z
  | .ite c a b, σ, z => (evE c σ z).bind fun x z => (lift (truD x) z).bind fun k z => match k with
    | true => evE a σ z
    | false => evE b σ z
  | .idx a i, σ, z => (evE a σ z).bind fun x z => (evE i σ z).bind fun y z => lift (idxD z x y) z
  | .slc a lo hi, σ, z => (evE a σ z).bind fun x z => (evE lo σ z).bind fun y z => (lift (intD y) z).bind fun i z => (evE hi σ z).bind fun w z => (lift (intD w) z).bind fun j z => lift (slcD x i j) z
  | .slcL a lo, σ, z => (evE a σ z).bind fun x z => (evE lo σ z).bind fun y z => (lift (intD y) z).bind fun i z => lift (slcD x i none) z
  | .slcH a hi, σ, z => (evE a σ z).bind fun x z => (evE hi σ z).bind fun y z => (lift (intD y) z).bind fun i z => lift (slcD x none i) z
  | .call f es, σ, z => (evEs es σ z).bind fun ds z => callE (Z.cl f ds) (hasBor es) ds z
  | .bi b es, σ, z => (evEs es σ z).bind fun ds z => lift (biD b ds) z
  | .isi t a, σ, z => (evE a σ z).bind fun x z => (lift (isiD t x) z).bind fun k z => .ok (.bl k) z
  | .strm a, σ, z => (evE a σ z).bind fun x z => (match x, z.st with
    | .lst ds, none => (match intsOf ds with
      | some xs => .ok .strm ⟨some (xs, 0, 0), z.cs⟩
      | none => .err)
    | _, _ => .err)
  | .comp t it e, σ, z => if freeAt σ t.slots then (evI it σ z).bind fun v z => (goI (fun d z => match asgT t d (wipeE σ t.slots) with
      | some σ => (match evE e σ z with
        | .ok x z => .ok [x] z
        | _ => .err)
      | none => .err) v z).bind fin else .err
  | .compI t it c e, σ, z => if freeAt σ t.slots then (evI it σ z).bind fun v z => (goI (fun d z => match asgT t d (wipeE σ t.slots) with
      | some σ => (match evE c σ z with
        | .ok x z => (match truD x with
          | some true => (match evE e σ z with
            | .ok x z => .ok [x] z
            | _ => .err)
          | some false => .ok [] z
          | none => .err)
        | _ => .err)
      | none => .err) v z).bind fin else .err
  | .comp2 t it t2 it2 e, σ, z => if freeAt σ (t.slots ++ t2.slots) then (evI it σ z).bind fun v z => (goI (fun d z => match asgT t d (wipeE σ (t.slots ++ t2.slots)) with
      | some σ => (match evI it2 σ z with
        | .ok v z => goI (fun d z => match asgT t2 d (wipeE σ t2.slots) with
          | some σ => (match evE e σ z with
            | .ok x z => .ok [x] z
            | _ => .err)
          | none => .err) v z
        | _ => .err)
      | none => .err) v z).bind fin else .err
  | .attr a c k, σ, z => (evE a σ z).bind fun x z => lift ((insAt z c x).bind fun p => getN k p.2) z
  | .meth c f a es, σ, z => (evE a σ z).bind fun x z => (lift (insAt z c x) z).bind fun _ z => (evEs es σ z).bind fun ds z => callE (Z.cl f (x :: ds)) false (x :: ds) z
  | .make c f es, σ, z => (evEs es σ z).bind fun ds z => (match callE (Z.cl f (.loc z.cs.length :: ds)) false (.loc z.cs.length :: ds) ⟨z.st, z.cs ++ [.ins c []]⟩ with
    | .ok .non z' => .ok (.loc z.cs.length) z'
    | _ => .err)
  | .newD t, _, z => .ok (.loc z.cs.length) ⟨z.st, z.cs ++ [.dct t []]⟩
  | .dget t d k, σ, z => (evE d σ z).bind fun x z => (evE k σ z).bind fun y z => lift ((dctAt z t x).bind fun p => (keyD t y).bind fun q => dFind p.2 q) z
  | .dgetD t d k x, σ, z => (evE d σ z).bind fun u z => (lift (dctAt z t u) z).bind fun _ z => (evE k σ z).bind fun y z => (evE x σ z).bind fun w z => lift ((dctAt z t u).bind fun p => (keyD t y).map fun q => (dFind p.2 q).getD w) z
  | .sjoin a b, σ, z => (evE a σ z).bind fun x z => (match x with
    | .str x => (evE b σ z).bind fun y z => lift (joinD x y) z
    | _ => .err)
  | .newL e, σ, z => (evE e σ z).bind fun d z => (match d with
    | .lst ds => .ok (.loc z.cs.length) ⟨z.st, z.cs ++ [.lst ds]⟩
    | _ => .err)
  | .lenL e, σ, z => (evE e σ z).bind fun d z => (lift (lenD (derC z d)) z).bind fun n z => .ok (.int (n : Nat)) z
  | .isiL t e, σ, z => (evE e σ z).bind fun d z => (lift (isiD t (derC z d)) z).bind fun k z => .ok (.bl k) z
  | .isiC c e, σ, z => (evE e σ z).bind fun d z => (lift (isiCD z c d) z).bind fun k z => .ok (.bl k) z
  | .makeK c f es, σ, z => (evEs es σ z).bind fun ds z => (match callE (Z.cl f (.loc z.cs.length :: ds)) false (.loc z.cs.length :: ds) ⟨z.st, z.cs ++ [.ins c []]⟩ with
    | .ok .non z' => .ok (.loc z.cs.length) z'
    | _ => .err)
  | .kget _ kvs k x, σ, z => (evE k σ z).bind fun y z => (evE x σ z).bind fun w z => (match y with
    | .str s => lift ((kvs.lookup s).map D.int) z
    | _ => .err)
  | .srt e, σ, z => (evE e σ z).bind fun d z => lift (srtD d) z
  | .scnt a b, σ, z => (evE a σ z).bind fun x z => (evE b σ z).bind fun y z => (match x, y with
    | .str s, .str [c] => .ok (.int (cntC s c)) z
    | _, _ => .err)
  | .srfd a b, σ, z => (evE a σ z).bind fun x z => (evE b σ z).bind fun y z => (match x, y with
    | .str s, .str [c] => .ok (.int (rfdC s c)) z
    | _, _ => .err)
  | .slcHL e hi, σ, z => (evE e σ z).bind fun x z => (evE hi σ z).bind fun y z => (lift (intD y) z).bind fun i z => (match derC z x with
    | .lst ds => lift (slcD (.lst ds) none i) z
    | _ => .err)
  | .ktt es, σ, z => (evEs es σ z).bind fun ds z => (lift (keysOf ds) z).bind fun q z => .ok (.ktp q) z
  | .ktv c, σ, z => (evE c σ z).bind fun d z => (match d with
    | .ktp q => .ok (.tup (q.map kyD)) z
    | _ => .err)
  | .din t n k d, σ, z => (evE k σ z).bind fun y z => (evE d σ z).bind fun x z => lift ((dctAt z t x).bind fun p => (keyD t y).map fun q => D.bl (if n then !(dFind p.2 q).isSome else (dFind p.2 q).isSome)) z
def evEs : Cs → Sg → Sto → Res (List D)
  | .nil, _, z => .ok [] z
  | .cons e es, σ, z => (evE e σ z).bind fun d z => (evEs es σ z).bind fun ds z => .ok (d :: ds) z
def evI : I → Sg → Sto → Res Iv
  | .seq e, σ, z => (evE e σ z).bind fun x z => (match x with
    | .lst ds => .ok (.l ds) z
    | .tup ds => .ok (.l ds) z
    | .str s => .ok (.l (s.map fun c => .str [c])) z
    | _ => .err)
  | .rng1 e, σ, z => (evE e σ z).bind fun x z => (match x with
    | .int j => if -(2 ^ 62) ≤ j ∧ j < 2 ^ 62 then .ok (.r 0 j.toNat) z else .err
    | _ => .err)
  | .rng2 a b, σ, z => (evE a σ z).bind fun x z => (evE b σ z).bind fun y z => (match x, y with
    | .int i, .int j => if -(2 ^ 62) ≤ i ∧ i < 2 ^ 62 ∧ -(2 ^ 62) ≤ j ∧ j < 2 ^ 62 then .ok (.r i (j - i).toNat) z else .err
    | _, _ => .err)
  | .enum e, σ, z => (evE e σ z).bind fun x z => (match x with
    | .lst ds => .ok (.l (ds.zipIdx.map fun p => .tup [.int p.2, p.1])) z
    | .tup ds => .ok (.l (ds.zipIdx.map fun p => .tup [.int p.2, p.1])) z
    | _ => .err)
  | .zip a b, σ, z => (evE a σ z).bind fun x z => (evE b σ z).bind fun y z => (match x, y with
    | .lst xs, .lst ys => .ok (.l ((xs.zip ys).map fun p => .tup [p.1, p.2])) z
    | .tup xs, .lst ys => .ok (.l ((xs.zip ys).map fun p => .tup [p.1, p.2])) z
    | .lst xs, .tup ys => .ok (.l ((xs.zip ys).map fun p => .tup [p.1, p.2])) z
    | .tup xs, .tup ys => .ok (.l ((xs.zip ys).map fun p => .tup [p.1, p.2])) z
    | _, _ => .err)
end

mutual
def evS : S → Sg → Sto → Res Fl
  | .set i e, σ, z => bS (evE Z e σ z) σ fun d z => .ok (.nx (σ.set i (some (.val d)))) z
  | .own i e, σ, z => bS (evE Z e σ z) σ fun d z => (match d with
    | .lst ds => .ok (.nx (σ.set i (some (.own ds)))) z
    | _ => .err)
  | .app i e, σ, z => (match σ[i]? with
    | some (some (.own ds)) => bS (evE Z e σ z) σ fun d z => if ds.length < lim then .ok (.nx (σ.set i (some (.own (ds ++ [d]))))) z else .err
    | _ => .err)
  | .ext i e, σ, z => (match σ[i]? with
    | some (some (.own ds)) => bS (evE Z e σ z) σ fun d z => (match d with
      | .lst es => if ds.length + es.length ≤ lim then .ok (.nx (σ.set i (some (.own (ds ++ es))))) z else .err
      | _ => .err)
    | _ => .err)
  | .setI i k e, σ, z => (match σ[i]? with
    | some (some (.own ds)) => bS (evE Z e σ z) σ fun d z => bS (evE Z k σ z) σ fun kd z => (match kd with
      | .int j => (match ixN ds.length j with
        | some n => .ok (.nx (σ.set i (some (.own (ds.set n d))))) z
        | none => .err)
      | _ => .err)
    | _ => .err)
  | .stI i k e, σ, z => (match σ[i]? with
    | some (some (.val .strm)) => bS (evE Z e σ z) σ fun d z => (match d, z.st with
      | .int j, some (xs, c, n) => if k = 1 then .ok (.nx σ) ⟨some (xs, j, n), z.cs⟩ else if k = 2 then .ok (.nx σ) ⟨some (xs, c, j), z.cs⟩ else .err
      | _, _ => .err)
    | _ => .err)
  | .aug i o e, σ, z => (match σ[i]? with
    | some (some (.val x)) => bS (evE Z e σ z) σ fun d z => (match o, x, d with
      | .add, .int a, .int b => .ok (.nx (σ.set i (some (.val (.int (a + b)))))) z
      | .sub, .int a, .int b => .ok (.nx (σ.set i (some (.val (.int (a - b)))))) z
      | _, _, _ => .err)
    | _ => .err)
  | .tset t e, σ, z => bS (evE Z e σ z) σ fun d z => (match asgT t d σ with
    | some σ => .ok (.nx σ) z
    | none => .err)
  | .par i j a b, σ, z => bS (evE Z a σ z) σ fun x z => bS (evE Z b σ z) σ fun y z => .ok (.nx ((σ.set i (some (.val x))).set j (some (.val y)))) z
  | .ex e, σ, z => bS (evE Z e σ z) σ fun _ z => .ok (.nx σ) z
  | .ret e, σ, z => bS (evE Z e σ z) σ fun d z => .ok (.rt d) z
  | .retN, _, z => .ok (.rt .non) z
  | .ife c a b, σ, z => bS (evE Z c σ z) σ fun x z => bS (lift (truD x) z) σ fun k z => match k with
    | true => evSs a σ z
    | false => evSs b σ z
  | .whl c b, σ, z => whlF (fun σ z => (evE Z c σ z).bind fun x z => lift (truD x) z) (fun σ z => evSs b σ z) Z.W σ z
  | .for_ t it b, σ, z => bS (evI Z it σ z) σ fun v z => forI (fun d σ z => match asgT t d σ with
      | some σ => evSs b σ z
      | none => .err) v σ z
  | .brk, σ, z => .ok (.bk σ) z
  | .cnt, σ, z => .ok (.ct σ) z
  | .pas, σ, z => .ok (.nx σ) z
  | .rai, _, _ => .err
  | .frz i, σ, z => (match σ[i]? with
    | some (some (.own ds)) => .ok (.nx (σ.set i (some (.val (.lst ds))))) z
    | some (some (.val d)) => .ok (.nx σ) z
    | _ => .err)
  | .setA i c k e, σ, z => bS (evE Z e σ z) σ fun d z => (match σ[i]? with
    | some (some (.val x)) => (match insAt z c x with
      | some (n, fs) => if fs.length < 100 then .ok (.nx σ) ⟨z.st, z.cs.set n (.ins c (putN k d fs))⟩ else .err
      | none => .err)
    | _ => .err)
  | .appC e x, σ, z => bS (evE Z e σ z) σ fun u z => (match u with
    | .loc n => (match z.cs[n]? with
      | some (.lst _) => bS (evE Z x σ z) σ fun w z => (match z.cs[n]? with
        | some (.lst ds) => if ds.length < lim then .ok (.nx σ) ⟨z.st, z.cs.set n (.lst (ds ++ [w]))⟩ else .err
        | _ => .err)
      | _ => .err)
    | _ => .err)
  | .raise c es, σ, z => bS (evEs Z es σ z) σ fun ds z => if ds.all D.fl then .ok (.xx ⟨c, ds⟩ σ) z else .err
  | .tryx b hs, σ, z => (evSs b σ z).bind fun fl z => (match fl with
    | .xx x σ' => (match hit hs x.c with
      | some h => if h.i < σ'.length then (match h.e.ev x.ds with
        | some d => .ok (.rt d) z
        | none => .err) else .err
      | none => .ok (.xx x σ') z)
    | fl => .ok fl z)
  | .dput t d k e, σ, z => bS (evE Z e σ z) σ fun w z => bS (evE Z d σ z) σ fun x z => bS (evE Z k σ z) σ fun y z => (match dctAt z t x, keyD t y with
    | some (n, kvs), some q => if kvs.length < lim then .ok (.nx σ) ⟨z.st, z.cs.set n (.dct t (dPut kvs q w))⟩ else .err
    | _, _ => .err)
def evSs : Ss → Sg → Sto → Res Fl
  | .nil, σ, z => .ok (.nx σ) z
  | .cons s ss, σ, z => (evS s σ z).bind fun fl z => match fl with
    | .nx σ => evSs ss σ z
    | fl => .ok fl z
end
end

/-! ### defs and calls -/
structure Fn where
  np : Nat
  nn : Nat
  body : Ss
structure Tab where
  fns : List Fn
  con : List D
  W : Nat
def outD (fl : Fl) (z : Sto) : Res D := match fl with
  | .nx _ => .ok .non z
  | .rt d => .ok d z
  | .xx x _ => .exn x z
  | _ => .err
def runS : Res Fl → Res D
  | .ok fl z => outD fl z
  | _ => .err
def callF (T : Tab) : Nat → Nat → List D → Sto → Res D
  | 0, _, _, _ => .err
  | k + 1, f, ds, z => match T.fns[f]? with
    | none => .err
    | some fd => if ds.length = fd.np then runS (evSs ⟨callF T k, T.con, T.W⟩ fd.body (ds.map (fun d => some (.val d)) ++ List.replicate (fd.nn - fd.np) none) z) else .err
end EV

namespace EV
open PySem L2

/-! ### worlds -/
/-- what never changes: where the classes are, the names of attributes -/
structure Stat where
  cl : Nat → Option Addr
  nm : Nat → Option Str
  inj : ∀ i j x, nm i = some x → nm j = some x → i = j
structure Wd where
  F : Addr → Prop
  L : List Addr
  s : Option Addr
  S : Stat

def kyK : Ky → Key
  | .i n => .inl n
  | .s x => .inr ⟨x.toArray⟩
def StrOk (l : List Nat) : Prop := l.length ≤ lim ∧ ∀ c ∈ l, c < 0x110000
def KyOk : Ky → Prop
  | .i _ => True
  | .s l => StrOk l

section
variable (K : PySem.W.Frag)
mutual
def Rp (W : Wd) (H : Hp) : V → D → Prop
  | v, .non => v = .non
  | v, .bl b => v = .bl b
  | v, .int i => v = .int i
  | v, .str l => v = .str ⟨l.toArray⟩ ∧ StrOk l
  | v, .tup ds => ∃ a vs, v = .ref a ∧ SqT K H a vs ∧ Rps W H vs ds
  | v, .lst ds => ∃ a vs, v = .ref a ∧ W.F a ∧ H a = some (.lst vs) ∧ Rps W H vs ds
  | v, .ext ds => ∃ a, v = .ref a ∧ ((W.F a ∧ SqL K H a (ds.map V.int)) ∨ ∀ H', SqL K H' a (ds.map V.int))
  | v, .ktp q => ∃ a, v = .ref a ∧ H a = some (.tup ((q.map kyK).map kV)) ∧ ∀ k ∈ q, KyOk k
  | _, .obj _ _ => False
  | v, .loc n => ∃ a, v = .ref a ∧ W.L[n]? = some a
  | v, .strm => ∃ a, v = .ref a ∧ W.s = some a
def Rps (W : Wd) (H : Hp) : List V → List D → Prop
  | [], [] => True
  | v :: vs, d :: ds => Rp W H v d ∧ Rps W H vs ds
  | _, _ => False
end

/-- what a value's meaning leans on stays -/
structure Mo (W : Wd) (H : Hp) (W' : Wd) (H' : Hp) : Prop where
  f : ∀ a, W.F a → W'.F a
  keepF : ∀ a o, W.F a → H a = some o → H' a = some o
  tups : ∀ a xs, H a = some (.tup xs) → H' a = some (.tup xs)
  frzs : ∀ a o u, H a = some (.frz o u) → H' a = some (.frz o u)
  l : ∃ r, W'.L = W.L ++ r
  s : ∀ a, W.s = some a → W'.s = some a
  S : W'.S = W.S
theorem Mo.refl {W : Wd} {H : Hp} : Mo W H W H := ⟨fun _ h => h, fun _ _ _ h => h, fun _ _ h => h, fun _ _ _ h => h, ⟨[], by simp⟩, fun _ h => h, rfl⟩
theorem Mo.trans {W1 W2 W3 : Wd} {H1 H2 H3 : Hp} (a : Mo W1 H1 W2 H2) (b : Mo W2 H2 W3 H3) : Mo W1 H1 W3 H3 :=
  ⟨fun x h => b.f x (a.f x h), fun x o h e => b.keepF x o (a.f x h) (a.keepF x o h e), fun x xs e => b.tups x xs (a.tups x xs e), fun x o u e => b.frzs x o u (a.frzs x o u e), let ⟨r1, e1⟩ := a.l; let ⟨r2, e2⟩ := b.l; ⟨r1 ++ r2, by rw [e2, e1, List.append_assoc]⟩, fun x h => b.s x (a.s x h), b.S.trans a.S⟩
theorem Mo.lg {W W' : Wd} {H H' : Hp} (m : Mo W H W' H') {n : Nat} {a : Addr} (h : W.L[n]? = some a) : W'.L[n]? = some a := by
  obtain ⟨r, e⟩ := m.l
  rw [e, List.getElem?_append_left (List.getElem?_eq_some_iff.mp h).1]
  exact h
theorem Mo.le {W W' : Wd} {H H' : Hp} (m : Mo W H W' H') : W.L.length ≤ W'.L.length := by
  obtain ⟨r, e⟩ := m.l
  rw [e, List.length_append]; exact Nat.le_add_right _ _

/-- .. and more: all tracked but the cells and the stream is kept; what is new in the world was free -/
structure Le (W : Wd) (H : Hp) (W' : Wd) (H' : Hp) : Prop extends Mo W H W' H' where
  fn : ∀ a, W'.F a → W.F a ∨ H a = none
  ln : ∀ a, a ∈ W'.L → a ∈ W.L ∨ H a = none
  sn : ∀ a, W'.s = some a → W.s = some a ∨ H a = none
  keep : ∀ a o, H a = some o → a ∉ W.L → W.s ≠ some a → H' a = some o
  kept : ∀ a o, H a = some o → ∃ o', H' a = some o'
theorem Le.refl {W : Wd} {H : Hp} : Le W H W H := ⟨Mo.refl, fun _ h => .inl h, fun _ h => .inl h, fun _ h => .inl h, fun _ _ h _ _ => h, fun _ o h => ⟨o, h⟩⟩
theorem Le.none_of {W W' : Wd} {H H' : Hp} (h : Le W H W' H') {a : Addr} (e : H' a = none) : H a = none := by
  cases q : H a with
  | none => rfl
  | some o =>
    obtain ⟨o', q'⟩ := h.kept a o q
    rw [e] at q'; cases q'
theorem Le.trans {W1 W2 W3 : Wd} {H1 H2 H3 : Hp} (a : Le W1 H1 W2 H2) (b : Le W2 H2 W3 H3) : Le W1 H1 W3 H3 where
  toMo := a.toMo.trans b.toMo
  fn := fun x h => by
    rcases b.fn x h with h | h
    · exact a.fn x h
    · exact .inr (a.none_of h)
  ln := fun x h => by
    rcases b.ln x h with h | h
    · exact a.ln x h
    · exact .inr (a.none_of h)
  sn := fun x h => by
    rcases b.sn x h with h | h
    · exact a.sn x h
    · exact .inr (a.none_of h)
  keep := fun x o e hl hs => by
    have e2 := a.keep x o e hl hs
    refine b.keep x o e2 (fun q => ?_) fun q => ?_
    · rcases a.ln x q with q | q
      · exact hl q
      · rw [e] at q; cases q
    rcases a.sn x q with q | q
    · exact hs q
    · rw [e] at q; cases q
  kept := fun x o e => by
    obtain ⟨o', e'⟩ := a.kept x o e
    exact b.kept x o' e'
theorem Le.same {W : Wd} {H H' : Hp} (h : Same H H') : Le W H W H' :=
  ⟨⟨fun _ x => x, fun a o _ e => h a o e, fun a xs e => h a _ e, fun a o u e => h a _ e, ⟨[], by simp⟩, fun _ x => x, rfl⟩, fun _ x => .inl x, fun _ x => .inl x, fun _ x => .inl x, fun a o e _ _ => h a o e, fun a o e => ⟨o, h a o e⟩⟩

variable {K} {W W' : Wd} {H H' : Hp}
/-- what is frozen is tracked, is no cell and not the stream -/
structure WOk (W : Wd) (H : Hp) : Prop where
  ft : ∀ a, W.F a → ∃ o, H a = some o
  fs : ∀ a, W.F a → W.s ≠ some a
  fl : ∀ a, W.F a → a ∉ W.L
  ll : ∀ a, a ∈ W.L → ∃ o, H a = some o
  sl : ∀ a, W.s = some a → a ∉ W.L
  nd : W.L.Nodup

theorem SqT.mo (m : Mo W H W' H') {a : Addr} {xs : List V} (h : SqT K H a xs) : SqT K H' a xs := by
  rcases h with (h | ⟨o, h⟩) | h
  · exact .inl (.inl (m.tups a xs h))
  · exact .inl (.inr ⟨o, m.frzs a o _ h⟩)
  · exact .inr h
theorem SqL.mo (m : Mo W H W' H') {a : Addr} {xs : List V} (hF : W.F a) (h : SqL K H a xs) : SqL K H' a xs := by
  rcases h with (h | ⟨o, h⟩) | h
  · exact .inl (.inl (m.keepF a _ hF h))
  · exact .inl (.inr ⟨o, m.frzs a o _ h⟩)
  · exact .inr h
mutual
theorem Rp.mo (m : Mo W H W' H') : ∀ (d : D) (v : V), Rp K W H v d → Rp K W' H' v d
  | .non, v, h => h
  | .bl _, v, h => h
  | .int _, v, h => h
  | .str _, v, h => h
  | .tup ds, v, h => by
    obtain ⟨a, vs, e, q, r⟩ := h
    exact ⟨a, vs, e, SqT.mo m q, Rps.mo m ds vs r⟩
  | .lst ds, v, h => by
    obtain ⟨a, vs, e, f, q, r⟩ := h
    exact ⟨a, vs, e, m.f a f, m.keepF a _ f q, Rps.mo m ds vs r⟩
  | .ext ds, v, h => by
    obtain ⟨a, e, q⟩ := h
    exact ⟨a, e, q.imp (fun ⟨f, q⟩ => ⟨m.f a f, SqL.mo m f q⟩) fun q => q⟩
  | .ktp _, v, h => by
    obtain ⟨a, e, q, k⟩ := h
    exact ⟨a, e, m.tups _ _ q, k⟩
  | .obj _ _, v, h => h.elim
  | .loc n, v, h => by
    obtain ⟨a, e, q⟩ := h
    exact ⟨a, e, m.lg q⟩
  | .strm, v, h => by
    obtain ⟨a, e, q⟩ := h
    exact ⟨a, e, m.s a q⟩
theorem Rps.mo (m : Mo W H W' H') : ∀ (ds : List D) (vs : List V), Rps K W H vs ds → Rps K W' H' vs ds
  | [], [], h => trivial
  | d :: ds, v :: vs, h => ⟨Rp.mo m d v h.1, Rps.mo m ds vs h.2⟩
  | [], _ :: _, h => h.elim
  | _ :: _, [], h => h.elim
end
theorem Rp.ext {ds : List Int} {v : V} (h : Rp K W H v (.ext ds)) : ∃ a, v = .ref a ∧ SqL K H a (ds.map V.int) := by
  obtain ⟨a, e, q⟩ := h
  exact ⟨a, e, q.elim (fun q => q.2) fun q => q H⟩
theorem kyD_rp {k : Ky} (h : KyOk k) : Rp K W H (kV (kyK k)) (kyD k) := by
  cases k with
  | i n => rfl
  | s l => exact ⟨rfl, h⟩
theorem kyDs_rp : ∀ {q : List Ky}, (∀ k ∈ q, KyOk k) → Rps K W H ((q.map kyK).map kV) (q.map kyD)
  | [], _ => trivial
  | k :: q, h => ⟨kyD_rp (h k List.mem_cons_self), kyDs_rp fun x hx => h x (List.mem_cons_of_mem _ hx)⟩
/-- a key tuple is a tuple -/
theorem Rp.ktup {v : V} {q : List Ky} (h : Rp K W H v (.ktp q)) : ∃ a, v = .ref a ∧ SqT K H a ((q.map kyK).map kV) ∧ Rps K W H ((q.map kyK).map kV) (q.map kyD) := by
  obtain ⟨a, e, q, k⟩ := h
  exact ⟨a, e, .inl (.inl q), kyDs_rp k⟩
theorem Rps.len : ∀ {ds : List D} {vs : List V}, Rps K W H vs ds → vs.length = ds.length
  | [], [], _ => rfl
  | d :: ds, v :: vs, h => by rw [List.length_cons, List.length_cons, Rps.len h.2]
  | [], _ :: _, h => h.elim
  | _ :: _, [], h => h.elim
theorem Rps.get : ∀ {ds : List D} {vs : List V} {i : Nat} {d : D}, Rps K W H vs ds → ds[i]? = some d → ∃ v, vs[i]? = some v ∧ Rp K W H v d
  | [], [], i, d, _, e => by simp at e
  | d :: ds, v :: vs, 0, x, h, e => by
    simp only [List.getElem?_cons_zero, Option.some.injEq] at e
    subst e
    exact ⟨v, rfl, h.1⟩
  | d :: ds, v :: vs, i + 1, x, h, e => by
    obtain ⟨w, e1, r⟩ := Rps.get (i := i) h.2 (by simpa using e)
    exact ⟨w, by simpa using e1, r⟩
  | [], _ :: _, _, _, h, _ => h.elim
  | _ :: _, [], _, _, h, _ => h.elim
theorem Rps.app : ∀ {ds es : List D} {vs us : List V}, Rps K W H vs ds → Rps K W H us es → Rps K W H (vs ++ us) (ds ++ es)
  | [], _, [], _, _, h => h
  | d :: ds, _, v :: vs, _, h, h2 => ⟨h.1, Rps.app h.2 h2⟩
  | [], _, _ :: _, _, h, _ => h.elim
  | _ :: _, _, [], _, h, _ => h.elim
theorem Rps.take : ∀ {ds : List D} {vs : List V} (n : Nat), Rps K W H vs ds → Rps K W H (vs.take n) (ds.take n)
  | [], [], n, _ => by simp [Rps]
  | d :: ds, v :: vs, 0, _ => trivial
  | d :: ds, v :: vs, n + 1, h => ⟨h.1, Rps.take n h.2⟩
  | [], _ :: _, _, h => h.elim
  | _ :: _, [], _, h => h.elim
theorem Rps.drop : ∀ {ds : List D} {vs : List V} (n : Nat), Rps K W H vs ds → Rps K W H (vs.drop n) (ds.drop n)
  | [], [], n, _ => by simp [Rps]
  | d :: ds, v :: vs, 0, h => h
  | d :: ds, v :: vs, n + 1, h => by simpa using Rps.drop n h.2
  | [], _ :: _, _, h => h.elim
  | _ :: _, [], _, h => h.elim
theorem Rps.set : ∀ {ds : List D} {vs : List V} {d : D} {v : V} (n : Nat), Rps K W H vs ds → Rp K W H v d → Rps K W H (vs.set n v) (ds.set n d)
  | [], [], _, _, n, _, _ => by simp [Rps]
  | d :: ds, v :: vs, _, _, 0, h, r => ⟨r, h.2⟩
  | d :: ds, v :: vs, _, _, n + 1, h, r => ⟨h.1, Rps.set n h.2 r⟩
  | [], _ :: _, _, _, _, h, _ => h.elim
  | _ :: _, [], _, _, _, h, _ => h.elim
theorem Rps.ints : ∀ (xs : List Int), Rps K W H (xs.map V.int) (xs.map D.int)
  | [] => trivial
  | x :: xs => ⟨rfl, Rps.ints xs⟩

/-! ### cells -/
theorem kyK_inj {a b : Ky} (h : kyK a = kyK b) : a = b := by
  cases a <;> cases b <;> simp [kyK] at h
  · rw [h]
  · rw [h]
theorem kyKs_inj : ∀ {a b : List Ky}, a.map kyK = b.map kyK → a = b
  | [], [], _ => rfl
  | x :: a, y :: b, h => by
    simp only [List.map_cons, List.cons.injEq] at h
    rw [kyK_inj h.1, kyKs_inj h.2]
  | [], _ :: _, h => by simp at h
  | _ :: _, [], h => by simp at h
def Dts (K : PySem.W.Frag) (W : Wd) (H : Hp) : List (List Key × V) → List (List Ky × D) → Prop
  | [], [] => True
  | p :: us, q :: ks => (p.1 = q.1.map kyK ∧ Rp K W H p.2 q.2) ∧ Dts K W H us ks
  | _, _ => False
def Dks (K : PySem.W.Frag) (W : Wd) (H : Hp) : List (Key × V) → List (List Ky × D) → Prop
  | [], [] => True
  | p :: us, q :: ks => ((∃ k, q.1 = [k] ∧ p.1 = kyK k) ∧ Rp K W H p.2 q.2) ∧ Dks K W H us ks
  | _, _ => False
def Ats (K : PySem.W.Frag) (W : Wd) (H : Hp) : List (Str × V) → List (Nat × D) → Prop
  | [], [] => True
  | p :: us, q :: ks => (W.S.nm q.1 = some p.1 ∧ Rp K W H p.2 q.2) ∧ Ats K W H us ks
  | _, _ => False
def CellRp (K : PySem.W.Frag) (W : Wd) (H : Hp) (a : Addr) : Cell → Prop
  | .lst ds => ∃ vs, H a = some (.lst vs) ∧ Rps K W H vs ds
  | .dct true kvs => ∃ us, H a = some (.dT us) ∧ Dts K W H us kvs
  | .dct false kvs => ∃ us, H a = some (.dK us) ∧ Dks K W H us kvs
  | .ins c fs => ∃ C dx us, W.S.cl c = some C ∧ H a = some (.ins C dx us) ∧ Ats K W H us fs
def CsR (K : PySem.W.Frag) (W : Wd) (H : Hp) : List Addr → List Cell → Prop
  | [], [] => True
  | a :: as, c :: cs => CellRp K W H a c ∧ CsR K W H as cs
  | _, _ => False
theorem Dts.mo (m : Mo W H W' H') : ∀ {us : List (List Key × V)} {ks : List (List Ky × D)}, Dts K W H us ks → Dts K W' H' us ks
  | [], [], _ => trivial
  | p :: us, q :: ks, h => ⟨⟨h.1.1, Rp.mo m _ _ h.1.2⟩, Dts.mo m h.2⟩
  | [], _ :: _, h => h.elim
  | _ :: _, [], h => h.elim
theorem Dks.mo (m : Mo W H W' H') : ∀ {us : List (Key × V)} {ks : List (List Ky × D)}, Dks K W H us ks → Dks K W' H' us ks
  | [], [], _ => trivial
  | p :: us, q :: ks, h => ⟨⟨h.1.1, Rp.mo m _ _ h.1.2⟩, Dks.mo m h.2⟩
  | [], _ :: _, h => h.elim
  | _ :: _, [], h => h.elim
theorem Ats.mo (m : Mo W H W' H') : ∀ {us : List (Str × V)} {ks : List (Nat × D)}, Ats K W H us ks → Ats K W' H' us ks
  | [], [], _ => trivial
  | p :: us, q :: ks, h => ⟨⟨by rw [m.S]; exact h.1.1, Rp.mo m _ _ h.1.2⟩, Ats.mo m h.2⟩
  | [], _ :: _, h => h.elim
  | _ :: _, [], h => h.elim
/-- a cell whose own object stays -/
theorem CellRp.mo (m : Mo W H W' H') {a : Addr} {c : Cell} (e : H' a = H a) (h : CellRp K W H a c) : CellRp K W' H' a c := by
  cases c with
  | lst ds =>
    obtain ⟨vs, q, r⟩ := h
    exact ⟨vs, by rw [e]; exact q, Rps.mo m _ _ r⟩
  | dct t kvs => cases t with
    | true =>
      obtain ⟨us, q, r⟩ := h
      exact ⟨us, by rw [e]; exact q, Dts.mo m r⟩
    | false =>
      obtain ⟨us, q, r⟩ := h
      exact ⟨us, by rw [e]; exact q, Dks.mo m r⟩
  | ins c fs =>
    obtain ⟨C, dx, us, q1, q2, r⟩ := h
    exact ⟨C, dx, us, by rw [m.S]; exact q1, by rw [e]; exact q2, Ats.mo m r⟩
theorem CellRp.at_ {a : Addr} {c : Cell} (h : CellRp K W H a c) : ∃ o, H a = some o ∧ (∀ xs, o ≠ .tup xs) ∧ ∀ ob u, o ≠ .frz ob u := by
  cases c with
  | lst ds => obtain ⟨vs, q, _⟩ := h; exact ⟨_, q, fun _ z => (by cases z), fun _ _ z => (by cases z)⟩
  | dct t kvs => cases t with
    | true => obtain ⟨us, q, _⟩ := h; exact ⟨_, q, fun _ z => (by cases z), fun _ _ z => (by cases z)⟩
    | false => obtain ⟨us, q, _⟩ := h; exact ⟨_, q, fun _ z => (by cases z), fun _ _ z => (by cases z)⟩
  | ins c fs => obtain ⟨C, dx, us, _, q, _⟩ := h; exact ⟨_, q, fun _ z => (by cases z), fun _ _ z => (by cases z)⟩
theorem CsR.mo (m : Mo W H W' H') : ∀ {as : List Addr} {cs : List Cell}, (∀ a ∈ as, H' a = H a) → CsR K W H as cs → CsR K W' H' as cs
  | [], [], _, _ => trivial
  | a :: as, c :: cs, e, h => ⟨h.1.mo m (e a List.mem_cons_self), CsR.mo m (fun b hb => e b (List.mem_cons_of_mem _ hb)) h.2⟩
  | [], _ :: _, _, h => h.elim
  | _ :: _, [], _, h => h.elim
theorem CsR.len : ∀ {as : List Addr} {cs : List Cell}, CsR K W H as cs → as.length = cs.length
  | [], [], _ => rfl
  | a :: as, c :: cs, h => by rw [List.length_cons, List.length_cons, CsR.len h.2]
  | [], _ :: _, h => h.elim
  | _ :: _, [], h => h.elim
theorem CsR.get : ∀ {as : List Addr} {cs : List Cell} {n : Nat} {c : Cell}, CsR K W H as cs → cs[n]? = some c → ∃ a, as[n]? = some a ∧ CellRp K W H a c
  | [], [], n, c, _, e => by simp at e
  | a :: as, c :: cs, 0, x, h, e => by
    simp only [List.getElem?_cons_zero, Option.some.injEq] at e
    subst e
    exact ⟨a, rfl, h.1⟩
  | a :: as, c :: cs, n + 1, x, h, e => by
    obtain ⟨b, e1, r⟩ := CsR.get (n := n) h.2 (by simpa using e)
    exact ⟨b, by simpa using e1, r⟩
  | [], _ :: _, _, _, h, _ => h.elim
  | _ :: _, [], _, _, h, _ => h.elim
theorem CsR.tr : ∀ {as : List Addr} {cs : List Cell}, CsR K W H as cs → ∀ a ∈ as, ∃ c, CellRp K W H a c
  | [], [], _, a, ha => by cases ha
  | a :: as, c :: cs, h, b, hb => by
    rcases List.mem_cons.mp hb with rfl | hb
    · exact ⟨c, h.1⟩
    · exact CsR.tr h.2 b hb
  | [], _ :: _, h, _, _ => h.elim
  | _ :: _, [], h, _, _ => h.elim
theorem CsR.push : ∀ {as : List Addr} {cs : List Cell} {a : Addr} {c : Cell}, CsR K W H as cs → CellRp K W H a c → CsR K W H (as ++ [a]) (cs ++ [c])
  | [], [], _, _, _, h => ⟨h, trivial⟩
  | a :: as, c :: cs, _, _, h, h2 => ⟨h.1, CsR.push h.2 h2⟩
  | [], _ :: _, _, _, h, _ => h.elim
  | _ :: _, [], _, _, h, _ => h.elim
theorem CsR.take : ∀ {as : List Addr} {cs : List Cell} (n : Nat), CsR K W H as cs → CsR K W H (as.take n) (cs.take n)
  | [], [], n, _ => by simp [CsR]
  | a :: as, c :: cs, 0, _ => trivial
  | a :: as, c :: cs, n + 1, h => ⟨h.1, CsR.take n h.2⟩
  | [], _ :: _, _, h => h.elim
  | _ :: _, [], _, h => h.elim
/-- one cell's object is written, the others stay -/
theorem CsR.write (m : Mo W H W' H') : ∀ {as : List Addr} {cs : List Cell} {n : Nat} {a : Addr} {c : Cell}, as.Nodup → as[n]? = some a → (∀ b, b ≠ a → H' b = H b) → CsR K W H as cs → CellRp K W' H' a c → CsR K W' H' as (cs.set n c)
  | [], [], n, a, c, _, e, _, _, _ => by simp at e
  | b :: as, d :: cs, 0, a, c, nd, e, k, h, r => by
    simp only [List.getElem?_cons_zero, Option.some.injEq] at e
    subst e
    rw [List.nodup_cons] at nd
    exact ⟨r, CsR.mo m (fun x hx => k x fun z => nd.1 (by rw [← z]; exact hx)) h.2⟩
  | b :: as, d :: cs, n + 1, a, c, nd, e, k, h, r => by
    rw [List.nodup_cons] at nd
    have e : as[n]? = some a := by simpa using e
    exact ⟨h.1.mo m (k b fun z => nd.1 (by rw [z]; exact List.mem_of_getElem? e)), CsR.write m nd.2 e k h.2 r⟩
  | [], _ :: _, _, _, _, _, _, _, h, _ => h.elim
  | _ :: _, [], _, _, _, _, _, _, h, _ => h.elim
/-! ### the state of a body -/
def Sl (K : PySem.W.Frag) (W : Wd) (H H0 : Hp) : Option Slot → Option V → Prop
  | none, _ => True
  | some (.val d), v => ∃ v', v = some v' ∧ Rp K W H v' d
  | some (.own ds), v => ∃ a vs, v = some (.ref a) ∧ H a = some (.lst vs) ∧ Rps K W H vs ds ∧ ¬ W.F a ∧ W.s ≠ some a ∧ a ∉ W.L ∧ H0 a = none
  | some (.dic _), _ => False
structure SR (K : PySem.W.Frag) (W : Wd) (H : Hp) (z : Sto) : Prop where
  ok : WOk W H
  cs : CsR K W H W.L z.cs
  st : match z.st with
    | none => W.s = none
    | some (xs, c, n) => ∃ a v, W.s = some a ∧ H a = some (.lst [v, .int c, .int n]) ∧ Rp K W H v (.lst (xs.map D.int))
/-- an own list stands at a -/
def OwnA (σd : Sg) (σ : St) (a : Addr) : Prop := ∃ (i : Nat) (ds : List D), σd[i]? = some (some (.own ds)) ∧ σ[i]? = some (some (.ref a))
structure BI (K : PySem.W.Frag) (W0 : Wd) (H0 : Hp) (W : Wd) (σd : Sg) (z : Sto) (σ : St) (H : Hp) : Prop where
  len : σd.length = σ.length
  sl : ∀ (i : Nat) (sd : Option Slot) (v : Option V), σd[i]? = some sd → σ[i]? = some v → Sl K W H H0 sd v
  ap : ∀ (i j : Nat) (a : Addr) (ds es : List D), σd[i]? = some (some (.own ds)) → σd[j]? = some (some (.own es)) → σ[i]? = some (some (.ref a)) → σ[j]? = some (some (.ref a)) → i = j
  sr : SR K W H z
  le : Le W0 H0 W H
def Wd.plus (W : Wd) (σd : Sg) (σ : St) : Wd := { W with F := fun a => W.F a ∨ OwnA σd σ a }
theorem BI.own {W0 : Wd} {H0 : Hp} {σd : Sg} {z : Sto} {σ : St} (b : BI K W0 H0 W σd z σ H) {a : Addr} (h : OwnA σd σ a) :
    ∃ ds vs, H a = some (.lst vs) ∧ Rps K W H vs ds ∧ ¬ W.F a ∧ W.s ≠ some a ∧ a ∉ W.L ∧ H0 a = none := by
  obtain ⟨i, ds, h1, h2⟩ := h
  obtain ⟨a', vs, e, q⟩ := b.sl i _ _ h1 h2
  cases e
  exact ⟨ds, vs, q⟩
/-- a slot's own list is not another's -/
theorem Mo.plus {W0 : Wd} {H0 : Hp} {σd : Sg} {z : Sto} {σ : St} (b : BI K W0 H0 W σd z σ H) (l : Le W H W' H') : Mo (W.plus σd σ) H (W'.plus σd σ) H' where
  f := fun a h => h.elim (fun h => .inl (l.f a h)) .inr
  keepF := fun a o h e => by
    rcases h with h | h
    · exact l.keepF a o h e
    · obtain ⟨_, _, q1, _, _, q2, q3, _⟩ := b.own h
      exact l.keep a o e q3 q2
  tups := l.tups
  frzs := l.frzs
  l := l.l
  s := l.s
  S := l.S
theorem Mo.toPlus {σd : Sg} {σ : St} : Mo W H (W.plus σd σ) H := ⟨fun _ h => .inl h, fun _ _ _ h => h, fun _ _ h => h, fun _ _ _ h => h, ⟨[], by simp [Wd.plus]⟩, fun _ h => h, rfl⟩
/-- a slot behind a step that keeps the own lists -/
theorem Sl.le {H0 : Hp} {sd : Option Slot} {v : Option V} (l : Le W H W' H') (h : Sl K W H H0 sd v) : Sl K W' H' H0 sd v := by
  cases sd with
  | none => trivial
  | some sl => cases sl with
    | val d =>
      obtain ⟨v', e, r⟩ := h
      exact ⟨v', e, Rp.mo l.toMo d v' r⟩
    | own ds =>
      obtain ⟨a, vs, e, q1, q2, q3, q4, q5, q6⟩ := h
      refine ⟨a, vs, e, l.keep a _ q1 q5 q4, Rps.mo l.toMo ds vs q2, fun z => ?_, fun z => ?_, fun z => ?_, q6⟩
      · rcases l.fn a z with z | z
        · exact q3 z
        · rw [q1] at z; cases z
      rotate_left
      · rcases l.ln a z with z | z
        · exact q5 z
        · rw [q1] at z; cases z
      · rcases l.sn a z with z | z
        · exact q4 z
        · rw [q1] at z; cases z
    | dic _ => exact h.elim
/-- the body's state behind a step: the world and the store as they are then -/
theorem BI.step {W0 : Wd} {H0 : Hp} {σd : Sg} {z z' : Sto} {σ : St} (b : BI K W0 H0 W σd z σ H) (l : Le W H W' H') (sr : SR K W' H' z') : BI K W0 H0 W' σd z' σ H' :=
  ⟨b.len, fun i sd v h1 h2 => (b.sl i sd v h1 h2).le l, b.ap, sr, b.le.trans l⟩
theorem WOk.same (h : WOk W H) (s : Same H H') : WOk W H' := ⟨fun a f => let ⟨o, e⟩ := h.ft a f; ⟨o, s a o e⟩, h.fs, h.fl, fun a m => let ⟨o, e⟩ := h.ll a m; ⟨o, s a o e⟩, h.sl, h.nd⟩
theorem SR.same {z : Sto} (h : SR K W H z) (s : Same H H') : SR K W H' z := by
  refine ⟨h.ok.same s, CsR.mo (Le.same s).toMo (fun a m => let ⟨o, e⟩ := h.ok.ll a m; by rw [e]; exact s a o e) h.cs, ?_⟩
  have q := h.st
  cases e : z.st with
  | none => rw [e] at q; exact q
  | some p =>
    obtain ⟨xs, c, n⟩ := p
    rw [e] at q
    obtain ⟨a, v, h1, h2, h3⟩ := q
    exact ⟨a, v, h1, s a _ h2, Rp.mo (Le.same s).toMo _ _ h3⟩
theorem BI.same {W0 : Wd} {H0 : Hp} {σd : Sg} {z : Sto} {σ : St} (b : BI K W0 H0 W σd z σ H) (s : Same H H') : BI K W0 H0 W σd z σ H' := b.step (Le.same s) (b.sr.same s)
theorem Same.new {p : Addr} {o : HO} (h : H p = none) : Same H (upd H p o) := fun b u e => by rw [upd_ne (ne_of_none e h)]; exact e
/-- a new list is frozen -/
def Wd.add (W : Wd) (p : Addr) : Wd := { W with F := fun a => W.F a ∨ a = p }
theorem Mo.wr {a : Addr} {xs ys : List V} (e : H a = some (.lst xs)) (hf : ¬ W.F a) : Mo W H W (upd H a (.lst ys)) :=
  ⟨fun _ h => h, fun c o f q => by rw [upd_ne (fun (z : c = a) => hf (by rw [← z]; exact f))]; exact q, fun c us q => by rw [upd_ne (ne_of q e (by intro z; cases z))]; exact q, fun c o u q => by rw [upd_ne (ne_of q e (by intro z; cases z))]; exact q, ⟨[], by simp⟩, fun _ h => h, rfl⟩
theorem CsR.wr {cs : List Cell} {a : Addr} {xs ys : List V} (e : H a = some (.lst xs)) (hf : ¬ W.F a) (hl : a ∉ W.L) (h : CsR K W H W.L cs) : CsR K W (upd H a (.lst ys)) W.L cs :=
  CsR.mo (Mo.wr e hf) (fun b hb => upd_ne fun z => hl (by rw [← z]; exact hb)) h
theorem WOk.wr {a : Addr} {o : HO} (h : WOk W H) (hf : ¬ W.F a) : WOk W (upd H a o) :=
  ⟨fun c f => let ⟨o', e⟩ := h.ft c f; ⟨o', by rw [upd_ne (fun (z : c = a) => hf (by rw [← z]; exact f))]; exact e⟩, h.fs, h.fl, fun c hm => by
    by_cases q : c = a
    · subst q; exact ⟨o, upd_same⟩
    · obtain ⟨o', e⟩ := h.ll c hm
      exact ⟨o', by rw [upd_ne q]; exact e⟩, h.sl, h.nd⟩
theorem Mo.add {p : Addr} : Mo W H (W.add p) H := ⟨fun _ h => .inl h, fun _ _ _ h => h, fun _ _ h => h, fun _ _ _ h => h, ⟨[], by simp [Wd.add]⟩, fun _ h => h, rfl⟩
theorem SR.add {z : Sto} (h : SR K W H z) {p : Addr} {o : HO} (hp : H p = some o) (hs : W.s ≠ some p) (hl : p ∉ W.L) : SR K (W.add p) H z := by
  have m : Mo W H (W.add p) H := Mo.add
  refine ⟨⟨fun a f => ?_, fun a f => ?_, fun a f => ?_, h.ok.ll, h.ok.sl, h.ok.nd⟩, CsR.mo m (fun _ _ => rfl) h.cs, ?_⟩
  · rcases f with f | rfl
    · exact h.ok.ft a f
    · exact ⟨o, hp⟩
  · rcases f with f | rfl
    · exact h.ok.fs a f
    · exact hs
  · rcases f with f | rfl
    · exact h.ok.fl a f
    · exact hl
  · have q := h.st
    cases e : z.st with
    | none => rw [e] at q; exact q
    | some p =>
      obtain ⟨xs, c, n⟩ := p
      rw [e] at q
      obtain ⟨a, v, h1, h2, h3⟩ := q
      exact ⟨a, v, h1, h2, Rp.mo m _ _ h3⟩
/-- a cell is written -/
theorem SR.wrC {z : Sto} (h : SR K W H z) {n : Nat} {a : Addr} {o : HO} {c : Cell} (ha : W.L[n]? = some a) (nt : ∀ xs, H a ≠ some (.tup xs)) (nf : ∀ ob u, H a ≠ some (.frz ob u)) (r : Mo W H W (upd H a o) → CellRp K W (upd H a o) a c) :
    Mo W H W (upd H a o) ∧ SR K W (upd H a o) ⟨z.st, z.cs.set n c⟩ := by
  have hm : a ∈ W.L := List.mem_of_getElem? ha
  have m : Mo W H W (upd H a o) := ⟨fun _ h => h, fun b ob f e => by rw [upd_ne (fun z => h.ok.fl b f (by rw [z]; exact hm))]; exact e, fun b xs e => by rw [upd_ne (fun z => nt xs (by rw [← z]; exact e))]; exact e,
    fun b ob u e => by rw [upd_ne (fun z => nf ob u (by rw [← z]; exact e))]; exact e, ⟨[], by simp⟩, fun _ h => h, rfl⟩
  have kp : ∀ b, b ≠ a → upd H a o b = H b := fun b hb => upd_ne hb
  refine ⟨m, ⟨fun b f => ?_, h.ok.fs, h.ok.fl, fun b hb => ?_, h.ok.sl, h.ok.nd⟩, CsR.write m h.ok.nd ha kp h.cs (r m), ?_⟩
  · obtain ⟨ob, e⟩ := h.ok.ft b f
    exact ⟨ob, m.keepF b ob f e⟩
  · by_cases q : b = a
    · subst q; exact ⟨o, upd_same⟩
    · obtain ⟨ob, e⟩ := h.ok.ll b hb
      exact ⟨ob, by rw [kp b q]; exact e⟩
  · have q := h.st
    cases e : z.st with
    | none => rw [e] at q; exact q
    | some p =>
      obtain ⟨xs, c, n⟩ := p
      rw [e] at q
      obtain ⟨b, v, h1, h2, h3⟩ := q
      exact ⟨b, v, h1, by rw [kp b (fun z => h.ok.sl b h1 (by rw [z]; exact hm))]; exact h2, Rp.mo m _ _ h3⟩
theorem BI.wrC {W0 : Wd} {H0 : Hp} {σd : Sg} {z : Sto} {σ : St} (b : BI K W0 H0 W σd z σ H) {n : Nat} {a : Addr} {o : HO} {c : Cell} (ha : W.L[n]? = some a) (nt : ∀ xs, H a ≠ some (.tup xs)) (nf : ∀ ob u, H a ≠ some (.frz ob u)) (r : Mo W H W (upd H a o) → CellRp K W (upd H a o) a c) :
    Mo W H W (upd H a o) ∧ BI K W0 H0 W σd ⟨z.st, z.cs.set n c⟩ σ (upd H a o) := by
  have hm : a ∈ W.L := List.mem_of_getElem? ha
  obtain ⟨m, sr⟩ := b.sr.wrC ha nt nf r
  refine ⟨m, b.len, fun i sd v h1 h2 => ?_, b.ap, sr, ⟨b.le.toMo.trans m, b.le.fn, b.le.ln, b.le.sn, fun x ob e hl hs => ?_, fun x ob e => ?_⟩⟩
  · have q := b.sl i sd v h1 h2
    cases sd with
    | none => trivial
    | some sl => cases sl with
      | val d =>
        obtain ⟨v', e, r⟩ := q
        exact ⟨v', e, Rp.mo m d v' r⟩
      | own ds =>
        obtain ⟨c, vs, rfl, q1, q2, q3, q4, q5, q6⟩ := q
        exact ⟨c, vs, rfl, by rw [upd_ne (fun z => q5 (by rw [z]; exact hm))]; exact q1, Rps.mo m ds vs q2, q3, q4, q5, q6⟩
      | dic _ => exact q.elim
  · have q := b.le.keep x ob e hl hs
    rw [upd_ne (fun z => ?_)]
    · exact q
    · subst z
      rcases b.le.ln _ hm with k | k
      · exact hl k
      · rw [e] at k; cases k
  · obtain ⟨o', q⟩ := b.le.kept x ob e
    by_cases hx : x = a
    · subst hx; exact ⟨o, upd_same⟩
    · exact ⟨o', by rw [upd_ne hx]; exact q⟩
/-- a new cell -/
def Wd.addL (W : Wd) (p : Addr) : Wd := { W with L := W.L ++ [p] }
theorem SR.newC {z : Sto} {c : Cell} (h : SR K W H z) (sm : Same H H') {p : Addr} (hp : H p = none) (r : Le W H (W.addL p) H' → CellRp K (W.addL p) H' p c) (hk : ∀ o, H' p = some o → (∀ xs, o ≠ .tup xs)) : Le W H (W.addL p) H' ∧ SR K (W.addL p) H' ⟨z.st, z.cs ++ [c]⟩ := by
  have nin : p ∉ W.L := fun q => by
    obtain ⟨o, e⟩ := h.ok.ll p q
    rw [hp] at e; cases e
  have l : Le W H (W.addL p) H' := by
    refine ⟨⟨fun _ x => x, fun a o _ e => sm a o e, fun a xs e => sm a _ e, fun a o u e => sm a _ e, ⟨[p], rfl⟩, fun _ x => x, rfl⟩, fun _ x => .inl x, fun a hm => ?_, fun _ x => .inl x, fun a o e _ _ => sm a o e, fun a o e => ⟨o, sm a o e⟩⟩
    rcases List.mem_append.mp hm with hm | hm
    · exact .inl hm
    · rw [List.mem_singleton.mp hm]; exact .inr hp
  have cr := r l
  refine ⟨l, ⟨fun a f => let ⟨o, e⟩ := h.ok.ft a f; ⟨o, sm a o e⟩, h.ok.fs, fun a f hm => ?_, fun a hm => ?_, fun a e hm => ?_, ?_⟩, ?_, ?_⟩
  · rcases List.mem_append.mp hm with hm | hm
    · exact h.ok.fl a f hm
    · obtain ⟨o, e⟩ := h.ok.ft a f
      rw [List.mem_singleton.mp hm, hp] at e; cases e
  · rcases List.mem_append.mp hm with hm | hm
    · obtain ⟨o, e⟩ := h.ok.ll a hm
      exact ⟨o, sm a o e⟩
    · rw [List.mem_singleton.mp hm]
      obtain ⟨o, e, _⟩ := cr.at_
      exact ⟨o, e⟩
  · rcases List.mem_append.mp hm with hm | hm
    · exact h.ok.sl a e hm
    · have q := h.st
      have e : W.s = some a := e
      cases e2 : z.st with
      | none => rw [e2] at q; rw [q] at e; cases e
      | some t =>
        obtain ⟨xs, c, n⟩ := t
        rw [e2] at q
        obtain ⟨b, v, h1, h2, _⟩ := q
        rw [e] at h1; cases h1
        rw [List.mem_singleton.mp hm, hp] at h2; cases h2
  · show (W.L ++ [p]).Nodup
    rw [List.nodup_append]
    refine ⟨h.ok.nd, by simp, fun a ha b hb => ?_⟩
    rw [List.mem_singleton.mp hb]
    exact fun z => nin (by rw [← z]; exact ha)
  · exact CsR.push (CsR.mo l.toMo (fun a ha => let ⟨o, e⟩ := h.ok.ll a ha; by rw [e]; exact sm a o e) h.cs) cr
  · have q := h.st
    show match z.st with
      | none => W.s = none
      | some (xs, c, n) => ∃ a v, W.s = some a ∧ H' a = some (.lst [v, .int c, .int n]) ∧ Rp K (W.addL p) H' v (.lst (xs.map D.int))
    cases e2 : z.st with
    | none => rw [e2] at q; exact q
    | some t =>
      obtain ⟨xs, c, n⟩ := t
      rw [e2] at q
      obtain ⟨b, v, h1, h2, h3⟩ := q
      exact ⟨b, v, h1, sm _ _ h2, Rp.mo l.toMo _ _ h3⟩
end
end EV

namespace EV
open PySem L2

/-- what stands around a body: the world and heap at its entry, how an exception lies in the heap, what is wanted of it -/
structure Mx where
  W0 : Wd
  H0 : Hp
  xr : Xn → Value → Option Addr → Hp → Prop
  wx : WX
section
variable (K : PySem.W.Frag) (M : Mx)
abbrev BIm (W : Wd) (σd : Sg) (z : Sto) (σ : St) (H : Hp) : Prop := BI K M.W0 M.H0 W σd z σ H
def Post {α : Type} (W : Wd) (σd : Sg) (σ : St) (H : Hp) (r : Res α) (Q : α → Sto → Wd → Hp → Prop) : Prop := match r with
  | .ok a z => ∀ W' H', Le W H W' H' → BIm K M W' σd z σ H' → Q a z W' H'
  | .exn x z => ∀ c dd W' H', Le W H W' H' → BIm K M W' σd z σ H' → M.xr x c dd H' → M.wx c dd σ H'
  | .err => False
/-- an operand: a value, or an own list as it stands -/
def RpO (W : Wd) (σd : Sg) (σ : St) (H : Hp) (v : V) : D → Prop
  | .lst ds => ∃ a vs, v = .ref a ∧ (W.F a ∨ OwnA σd σ a) ∧ H a = some (.lst vs) ∧ Rps K W H vs ds
  | d => Rp K W H v d
def RpsO (W : Wd) (σd : Sg) (σ : St) (H : Hp) : List V → List D → Prop
  | [], [] => True
  | v :: vs, d :: ds => RpO K W σd σ H v d ∧ RpsO W σd σ H vs ds
  | _, _ => False
def Rpx (c : C) (W : Wd) (σd : Sg) (σ : St) (H : Hp) (v : V) (d : D) : Prop := if isBor c = true then RpO K W σd σ H v d else Rp K W H v d
def Rpsx (es : Cs) (W : Wd) (σd : Sg) (σ : St) (H : Hp) (vs : List V) (ds : List D) : Prop := if hasBor es = true then RpsO K W σd σ H vs ds else Rps K W H vs ds
variable (Z : Cxt)
/-- an expression's reading: the evaluator says it -/
def tE (c : C) : TE := fun σ H Q => ∃ W σd z, BIm K M W σd z σ H ∧ Post K M W σd σ H (evE Z c σd z) fun d _ W' H' => ∀ v, Rpx K c W' σd σ H' v d → Q v H'
def tEs (es : Cs) : TA := fun σ H Q => ∃ W σd z, BIm K M W σd z σ H ∧ Post K M W σd σ H (evEs Z es σd z) fun ds _ W' H' => ∀ vs, Rpsx K es W' σd σ H' vs ds → Q vs H'
/-- a value that is a new list, or any other value -/
def RpN (H : Hp) (W' : Wd) (H' : Hp) (v : V) : D → Prop
  | .lst ds => ∃ a vs, v = .ref a ∧ H' a = some (.lst vs) ∧ Rps K W' H' vs ds ∧ ¬ W'.F a ∧ W'.s ≠ some a ∧ a ∉ W'.L ∧ H a = none
  | d => Rp K W' H' v d
def tN (c : C) : TE := fun σ H Q => ∃ W σd z, BIm K M W σd z σ H ∧ Post K M W σd σ H (evE Z c σd z) fun d _ W' H' => ∀ v, RpN K H W' H' v d → Q v H'
/-- a test -/
def tB (c : C) : TT := fun σ H Q => ∃ W σd z, BIm K M W σd z σ H ∧ Post K M W σd σ H ((evE Z c σd z).bind fun x z => lift (truD x) z) fun b _ _ H' => Q b H'
end

section
variable {K : PySem.W.Frag} {M : Mx} {Z : Cxt} {W : Wd} {σd : Sg} {z : Sto} {σ : St} {H : Hp}
theorem Post.mono {α : Type} {r : Res α} {Q Q' : α → Sto → Wd → Hp → Prop} (h : Post K M W σd σ H r Q) (i : ∀ a z W' H', Le W H W' H' → BIm K M W' σd z σ H' → Q a z W' H' → Q' a z W' H') : Post K M W σd σ H r Q' := by
  cases r with
  | ok a z => exact fun W' H' l b => i a z W' H' l b (h W' H' l b)
  | exn x z => exact h
  | err => exact h
theorem Post.of_bind {α β : Type} {r : Res α} {f : α → Sto → Res β} {Q : β → Sto → Wd → Hp → Prop} (h : Post K M W σd σ H (r.bind f) Q) :
    Post K M W σd σ H r fun a z W' H' => Post K M W' σd σ H' (f a z) Q := by
  cases r with
  | ok a z =>
    intro W' H' l b
    have h : Post K M W σd σ H (f a z) Q := h
    cases e : f a z with
    | ok c z2 =>
      rw [e] at h
      exact fun W2 H2 l2 b2 => h W2 H2 (l.trans l2) b2
    | exn x z2 =>
      rw [e] at h
      exact fun c dd W2 H2 l2 b2 => h c dd W2 H2 (l.trans l2) b2
    | err =>
      rw [e] at h
      exact h
  | exn x z => exact h
  | err => exact h
theorem Post.lift {α : Type} {o : Option α} {Q : α → Sto → Wd → Hp → Prop} (h : Post K M W σd σ H (lift o z) Q) (b : BIm K M W σd z σ H) : ∃ a, o = some a ∧ ∀ W' H', Le W H W' H' → BIm K M W' σd z σ H' → Q a z W' H' := by
  cases o with
  | none => exact h.elim
  | some a => exact ⟨a, rfl, fun W' H' l b' => h W' H' l b'⟩
theorem Rpx_no {c : C} (h : isBor c = false) {v : V} {d : D} : Rpx K c W σd σ H v d ↔ Rp K W H v d := by unfold Rpx; rw [h]; simp
theorem Rpsx_no {es : Cs} (h : hasBor es = false) {vs : List V} {ds : List D} : Rpsx K es W σd σ H vs ds ↔ Rps K W H vs ds := by unfold Rpsx; rw [h]; simp
theorem Rp.toO {v : V} {d : D} (h : Rp K W H v d) : RpO K W σd σ H v d := by
  cases d with
  | lst ds =>
    obtain ⟨a, vs, e, f, q, r⟩ := h
    exact ⟨a, vs, e, .inl f, q, r⟩
  | _ => exact h
theorem Rps.toO : ∀ {vs : List V} {ds : List D}, Rps K W H vs ds → RpsO K W σd σ H vs ds
  | [], [], _ => trivial
  | v :: vs, d :: ds, h => ⟨Rp.toO h.1, Rps.toO h.2⟩
  | [], _ :: _, h => h.elim
  | _ :: _, [], h => h.elim
theorem Rpx.op {c : C} {d : D} {v : V} (h : Rpx K c W σd σ H v d) : RpO K W σd σ H v d := by
  unfold Rpx at h
  split at h
  · exact h
  · exact Rp.toO h
theorem Rpsx.op {es : Cs} {ds : List D} {vs : List V} (h : Rpsx K es W σd σ H vs ds) : RpsO K W σd σ H vs ds := by
  unfold Rpsx at h
  split at h
  · exact h
  · exact Rps.toO h
theorem RpO.le {W0 W' : Wd} {H0 H' : Hp} (b : BI K W0 H0 W σd z σ H) (l : Le W H W' H') {v : V} {d : D} (h : RpO K W σd σ H v d) : RpO K W' σd σ H' v d := by
  cases d with
  | lst ds =>
    obtain ⟨a, vs, e, f, q, r⟩ := h
    refine ⟨a, vs, e, f.imp (l.f a) id, ?_, Rps.mo l.toMo _ _ r⟩
    rcases f with f | f
    · exact l.keepF a _ f q
    · obtain ⟨_, _, q1, _, _, q2, q3, _⟩ := b.own f
      exact l.keep a _ q q3 q2
  | _ => exact Rp.mo l.toMo _ _ h
theorem RpO.plus {v : V} {d : D} (h : RpO K W σd σ H v d) : Rp K (W.plus σd σ) H v d := by
  cases d with
  | lst ds =>
    obtain ⟨a, vs, e, f, q, r⟩ := h
    exact ⟨a, vs, e, f, q, Rps.mo Mo.toPlus _ _ r⟩
  | _ => exact Rp.mo Mo.toPlus _ _ h
theorem BI.get {W0 : Wd} {H0 : Hp} (b : BI K W0 H0 W σd z σ H) {i : Nat} {sd : Option Slot} (h : σd[i]? = some sd) : ∃ v, σ[i]? = some v ∧ Sl K W H H0 sd v := by
  have hi : i < σd.length := (List.getElem?_eq_some_iff.mp h).1
  have hi2 : i < σ.length := by rw [← b.len]; exact hi
  exact ⟨σ[i], List.getElem?_eq_getElem hi2, b.sl i sd _ h (List.getElem?_eq_getElem hi2)⟩
theorem _root_.L2.PE.evi {X : Cx} {e : PySem.Expr} {t t' : TE} (h : PE X e t) (i : ∀ σ H Q, t' σ H Q → t σ H Q) : PE X e t' := ⟨fun pins s σ H Q I q => h.run pins s σ H Q I (i σ H Q q)⟩
theorem _root_.L2.PT.evi {X : Cx} {e : PySem.Expr} {t t' : TT} (h : PT X e t) (i : ∀ σ H Q, t' σ H Q → t σ H Q) : PT X e t' := ⟨fun pins s σ H Q I q => h.run pins s σ H Q I (i σ H Q q)⟩
theorem _root_.L2.PW.evi {X : Cx} {e : PySem.Expr} {t t' : TT} (h : PW X e t) (i : ∀ σ H Q, t' σ H Q → t σ H Q) : PW X e t' := ⟨fun wh pins s σ H Q I q => h.run wh pins s σ H Q I (i σ H Q q)⟩
theorem _root_.L2.PA.evi {X : Cx} {e : List PySem.Expr} {t t' : TA} (h : PA X e t) (i : ∀ σ H Q, t' σ H Q → t σ H Q) : PA X e t' := ⟨fun pos pins s σ H Q I q => h.run pos pins s σ H Q I (i σ H Q q)⟩
theorem _root_.L2.PS.evi {X : Cx} {e : PySem.Stmt} {t t' : TS} (h : PS X e t) (i : ∀ D σ H, t' D σ H → t D σ H) : PS X e t' := ⟨fun pins s σ H D I q => h.run pins s σ H D I (i D σ H q)⟩
theorem _root_.L2.PSs.evi {X : Cx} {e : List PySem.Stmt} {t t' : TS} (h : PSs X e t) (i : ∀ D σ H, t' D σ H → t D σ H) : PSs X e t' := ⟨fun pins s σ H D I q => h.run pins s σ H D I (i D σ H q)⟩

/-- the state behind a new list, frozen or not -/
theorem BI.add {W0 : Wd} {H0 : Hp} (b : BI K W0 H0 W σd z σ H) {a : Addr} {o : HO} (e : H a = some o) (hs : W.s ≠ some a) (hl : a ∉ W.L) (h0 : H0 a = none) (hn : ¬ OwnA σd σ a) : BI K W0 H0 (W.add a) σd z σ H := by
  have m : Mo W H (W.add a) H := Mo.add
  refine ⟨b.len, fun i sd v h1 h2 => ?_, b.ap, b.sr.add e hs hl, ⟨b.le.toMo.trans m, fun x f => ?_, b.le.ln, b.le.sn, b.le.keep, b.le.kept⟩⟩
  · have q := b.sl i sd v h1 h2
    cases sd with
    | none => trivial
    | some sl => cases sl with
      | val d =>
        obtain ⟨v', e, r⟩ := q
        exact ⟨v', e, Rp.mo m d v' r⟩
      | own ds =>
        obtain ⟨c, vs, rfl, q1, q2, q3, q4, q5, q6⟩ := q
        refine ⟨c, vs, rfl, q1, Rps.mo m ds vs q2, fun z => ?_, q4, q5, q6⟩
        rcases z with z | rfl
        · exact q3 z
        · exact hn ⟨i, ds, h1, h2⟩
      | dic _ => exact q.elim
  · rcases f with f | rfl
    · exact b.le.fn x f
    · exact .inr h0
theorem Le.add {W' : Wd} {H' : Hp} (l : Le W H W' H') {a : Addr} (h : H a = none) : Le W H (W'.add a) H' :=
  ⟨⟨fun x f => .inl (l.f x f), l.keepF, l.tups, l.frzs, l.l, l.s, l.S⟩, fun x f => by
    rcases f with f | rfl
    · exact l.fn x f
    · exact .inr h, l.ln, l.sn, l.keep, l.kept⟩
theorem OwnA.tracked {W0 : Wd} {H0 : Hp} (b : BI K W0 H0 W σd z σ H) {a : Addr} (h : H a = none) : ¬ OwnA σd σ a := fun q => by
  obtain ⟨_, _, e, _⟩ := b.own q
  rw [h] at e; cases e
/-- a new list may be taken as a frozen one -/
theorem tE_tN {c : C} (hb : isBor c = false) {Q : VK} (h : tE K M Z c σ H Q) : tN K M Z c σ H Q := by
  obtain ⟨W, σd, z, b, p⟩ := h
  refine ⟨W, σd, z, b, ?_⟩
  cases e : evE Z c σd z with
  | exn x z' => rw [e] at p; exact p
  | err => rw [e] at p; exact p
  | ok d z' =>
    rw [e] at p
    intro W' H' l b' v r
    have done : Rp K W' H' v d → Q v H' := fun r => p W' H' l b' v ((Rpx_no hb).mpr r)
    cases d with
    | lst ds =>
      obtain ⟨a, vs, rfl, q1, q2, q3, q4, q5, q6⟩ := r
      have h0 : M.H0 a = none := b.le.none_of q6
      refine p (W'.add a) H' (l.add q6) (b'.add q1 q4 q5 h0 (OwnA.tracked b q6)) _ ((Rpx_no hb).mpr ?_)
      have m : Mo W' H' (W'.add a) H' := Mo.add
      exact ⟨a, vs, rfl, .inr rfl, q1, Rps.mo m ds vs q2⟩
    | _ => exact done r
theorem sE_tN {X : Cx} {e : PySem.Expr} {c : C} (hb : isBor c = false) (h : PE X e (tN K M Z c)) : PE X e (tE K M Z c) := h.evi fun _ _ _ q => tE_tN hb q

/-! ### leaves -/
theorem sE_var {X : Cx} {i : Nat} {x : Str} {pos : Pos} (hN : X.N[i]? = some x) (hv : Vis X.env.scope x) (hd : (x == ("__debug__" : Str)) = false) (hcd : (x == ("__classdict__" : Str)) = false) : PE X (.Name x pos) (tE K M Z (.var i)) := by
  refine (pe_var hN hv hd hcd).evi fun σ H Q h => ?_
  obtain ⟨W, σd, z, b, p⟩ := h
  unfold evE at p
  split at p
  · rename_i d e
    obtain ⟨v, hv, v', rfl, r⟩ := b.get e
    exact ⟨v', hv, p W H Le.refl b v' r⟩
  · exact p.elim
theorem sE_bor {X : Cx} {i : Nat} {x : Str} {pos : Pos} (hN : X.N[i]? = some x) (hv : Vis X.env.scope x) (hd : (x == ("__debug__" : Str)) = false) (hcd : (x == ("__classdict__" : Str)) = false) : PE X (.Name x pos) (tE K M Z (.bor i)) := by
  refine (pe_var hN hv hd hcd).evi fun σ H Q h => ?_
  obtain ⟨W, σd, z, b, p⟩ := h
  unfold evE peek at p
  split at p
  · rename_i d e
    obtain ⟨v, hv, v', rfl, r⟩ := b.get e
    exact ⟨v', hv, p W H Le.refl b v' (Rp.toO r)⟩
  · rename_i ds e
    obtain ⟨v, hv, a, vs, rfl, q1, q2, q3⟩ := b.get e
    exact ⟨_, hv, p W H Le.refl b _ ⟨a, vs, rfl, .inr ⟨i, ds, e, hv⟩, q1, q2⟩⟩
  · exact p.elim
theorem sE_non {X : Cx} {j pos} : PE X (.Constant .none j pos) (tE K M Z .non) := pe_non.evi fun σ H Q ⟨W, σd, z, b, p⟩ => p W H Le.refl b _ rfl
theorem sE_bl {X : Cx} {x j pos} : PE X (.Constant (.bool x) j pos) (tE K M Z (.bl x)) := pe_bl.evi fun σ H Q ⟨W, σd, z, b, p⟩ => p W H Le.refl b _ rfl
theorem sE_int {X : Cx} {x j pos} : PE X (.Constant (.int x) j pos) (tE K M Z (.int x)) := pe_int.evi fun σ H Q ⟨W, σd, z, b, p⟩ => p W H Le.refl b _ rfl
theorem sE_str {X : Cx} {x : Str} {l : List Nat} {j pos} (e : x.cps.toList = l) (ok : StrOk l) : PE X (.Constant (.str x) j pos) (tE K M Z (.str l)) := by
  subst e
  exact pe_str.evi fun σ H Q ⟨W, σd, z, b, p⟩ => p W H Le.refl b _ ⟨by simp, ok⟩
theorem sE_glo {X : Cx} {x : Str} {g : Nat} {v : V} {u : Value} {pos : Pos} (hg : Gl X x) (hm : X.mg x = some u) (r : RelV v u) (hd : (x == ("__debug__" : Str)) = false) (hr : ∀ d, Z.con[g]? = some d → ∀ W H, Rp K W H v d) : PE X (.Name x pos) (tE K M Z (.glo g)) := by
  refine (pe_glob hg hm r hd).evi fun σ H Q h => ?_
  obtain ⟨W, σd, z, b, p⟩ := h
  unfold evE at p
  obtain ⟨d, e, q⟩ := Post.lift p b
  exact q W H Le.refl b v (hr d e _ _)

/-! ### argument lists -/
theorem sEs_nil {X : Cx} : PA X [] (tEs K M Z .nil) := pa_nil.evi fun σ H Q ⟨W, σd, z, b, p⟩ => p W H Le.refl b [] trivial
def nostar : PySem.Expr → Bool
  | .Starred _ _ => false
  | _ => true
theorem star_no {e : PySem.Expr} (h : nostar e = true) (es : List PySem.Expr) (env : PySem.Env) : starEach (e :: es) env = (false, eval e env) :: starEach es env := by
  cases e <;> first | rfl | exact nomatch h
theorem sEs_cons {X : Cx} {e : PySem.Expr} {es : List PySem.Expr} {c : C} {cs : Cs} (hs : nostar e = true) (h1 : PE X e (tE K M Z c)) (h2 : PA X es (tEs K M Z cs)) : PA X (e :: es) (tEs K M Z (.cons c cs)) := by
  refine (pa_cons h1 h2 (star_no hs es X.env)).evi fun σ H Q h => ?_
  obtain ⟨W, σd, z, b, p⟩ := h
  refine ⟨W, σd, z, b, (Post.of_bind p).mono fun d z1 W1 H1 l1 b1 p1 v rv => ⟨W1, σd, z1, b1, (Post.of_bind p1).mono fun ds z2 W2 H2 l2 b2 p2 vs rvs => p2 W2 H2 Le.refl b2 (v :: vs) ?_⟩⟩
  · unfold Rpx at rv
    unfold Rpsx hasBor
    unfold Rpsx at rvs
    cases hb : isBor c with
    | true =>
      rw [hb] at rv
      simp only [Bool.true_or, if_true] at rv ⊢
      refine ⟨RpO.le b1 l2 rv, ?_⟩
      split at rvs
      · exact rvs
      · exact Rps.toO rvs
    | false =>
      rw [hb] at rv
      simp only [Bool.false_or, Bool.false_eq_true, if_false] at rv ⊢
      split at rvs
      · rename_i h
        rw [if_pos h]
        exact ⟨Rp.toO (Rp.mo l2.toMo _ _ rv), rvs⟩
      · rename_i h
        rw [if_neg h]
        exact ⟨Rp.mo l2.toMo _ _ rv, rvs⟩
end
end EV

namespace L2
open PySem PySem.Spec PyProof.Rows
/-- a tuple once is itself -/
def rRep1 (K : W.Frag) : R2 := fun x y H Q => ∃ l xs, x = .ref l ∧ y = .int 1 ∧ SqT K H l xs ∧ xs ≠ [] ∧ Q (.ref l) H
theorem tuple_once (l : Addr) (items : Array Value) (n : Nat) (dd : Option Addr) (sl : Array (Option Value)) (u : Tok) :
    Meets (Builtin.«tuple.__mul__» ⟨[.ref l, .int 1 u], []⟩) (fun _ R s => s.heap.get? l = some { cls := .type "tuple", dict := dd, data := .seq items n, slots := sl } ∧ R (.ok (.ret (Value.ref l))) s) :=
  .of_wp fun prog w A R s h => by
    obtain ⟨hp, g, d, tk, os⟩ := s
    obtain ⟨hl, h⟩ := h
    have f1 := AutoSeq1.idx_int
    have c0 : (decide ((1 : Int) < -(2 ^ 63)) || decide ((1 : Int) ≥ 2 ^ 63)) = false := by decide
    have c1 : (items.isEmpty || (1 : Int) == 1) = true := by simp
    wp_walk using wpAny_loadPart' hl
    repeat (first
      | (refine wpAny_ite_false (decide_eq_false (by rw [c0]; exact Bool.false_ne_true)) ?_; wp_walk using wpAny_loadPart' hl)
      | (refine wpAny_ite_true (decide_eq_true c1) ?_; wp_walk using wpAny_loadPart' hl))
    exact ⟨_, rfl, h⟩
theorem op_rep1 {X : Cx} : OpR X (binaryOp .Mult) (rRep1 X.K) := by
  intro pins s σ H x y v u Q I rx ry h
  obtain ⟨l, xs, rfl, rfl, hT, hne, q⟩ := h
  cases rx
  obtain ⟨tk, rfl⟩ := ry
  obtain ⟨its, r, ⟨⟨cls, dd, data, sl⟩, ho, hc, n, hd⟩, hs⟩ := I.tuple hT
  simp only at hc hd
  subst hc hd
  refine wpAny_binaryOp_repeat_ref (T := "tuple") (U := "int") (by decide) ⟨_, ho, rfl⟩ (fun s' => typeIs_int s' 1 tk) noFill_tuple_mul F.fills_int_mul F.slot_int_rmul repeat_tuple F.slot_int_index.lookup ?_
  refine call_meets F.slot_int_rmul (typeIs_int s 1 tk) F.entry_int_rmul (F.args_int_rmul_2 _ _) (int_rmul_tuple 1 tk l its.toArray n dd sl) ⟨ho, rfl, ⟨_, ho, rfl⟩, call_meets F.slot_tuple_mul ⟨_, ho, rfl⟩ F.entry_tuple_mul (F.args_tuple_mul_2 _ _) (tuple_once l its.toArray n dd sl tk) ⟨ho, ?_⟩⟩
  exact ⟨.ref l, _, I, rfl, q⟩
end L2

namespace EV
open PySem L2

theorem OpR.orr {X : Cx} {f : Value → Value → Sem Value} {r r' : R2} (h : OpR X f r) (h' : OpR X f r') : OpR X f (fun x y H Q => r x y H Q ∨ r' x y H Q) := by
  intro pins s σ H x y v u Q I r1 r2 q
  rcases q with q | q
  · exact h pins s σ H x y v u Q I r1 r2 q
  · exact h' pins s σ H x y v u Q I r1 r2 q
theorem OpR.imp {X : Cx} {f : Value → Value → Sem Value} {r r' : R2} (h : OpR X f r) (i : ∀ x y H Q, r' x y H Q → r x y H Q) : OpR X f r' := fun pins s σ H x y v u Q I r1 r2 q => h pins s σ H x y v u Q I r1 r2 (i x y H Q q)

section
variable {K : PySem.W.Frag} {M : Mx} {Z : Cxt} {W : Wd} {σd : Sg} {z : Sto} {σ : St} {H : Hp}
theorem SR.sf (h : SR K W H z) {a : Addr} (e : W.s = some a) : ∃ o, H a = some o := by
  have q := h.st
  cases r : z.st with
  | none => rw [r] at q; rw [q] at e; cases e
  | some p =>
    obtain ⟨xs, c, n⟩ := p
    rw [r] at q
    obtain ⟨a', v, h1, h2, _⟩ := q
    rw [e] at h1; cases h1
    exact ⟨_, h2⟩
/-- a new list comes -/
theorem new_list {W0 : Wd} {H1 H2 : Hp} {W2 : Wd} {z2 : Sto} (h12 : ∀ a, H2 a = none → H1 a = none) (b : BIm K M W2 σd z2 σ H2) {vs : List V} {ds : List D} (r : Rps K W2 H2 vs ds) {Q : VK}
    (q : ∀ W' H', Le W2 H2 W' H' → BIm K M W' σd z2 σ H' → ∀ v, RpN K H1 W' H' v (.lst ds) → Q v H') {p : Addr} (hp : H2 p = none) : Q (.ref p) (upd H2 p (.lst vs)) := by
  have sm : Same H2 (upd H2 p (.lst vs)) := Same.new hp
  refine q W2 _ (Le.same sm) (BI.same b sm) _ ⟨p, vs, rfl, upd_same, Rps.mo (Le.same sm).toMo _ _ r, fun f => ?_, fun e => ?_, ?_, h12 p hp⟩
  · obtain ⟨o, e⟩ := b.sr.ok.ft p f
    rw [hp] at e; cases e
  · obtain ⟨o, e⟩ := b.sr.sf e
    rw [hp] at e; cases e
  · intro hm
    obtain ⟨o, e⟩ := b.sr.ok.ll p hm
    rw [hp] at e; cases e
/-- a new tuple comes -/
theorem new_tup {H2 : Hp} {W2 : Wd} {z2 : Sto} (b : BIm K M W2 σd z2 σ H2) {vs : List V} {ds : List D} (r : Rps K W2 H2 vs ds) {Q : VK}
    (q : ∀ W' H', Le W2 H2 W' H' → BIm K M W' σd z2 σ H' → ∀ v, Rp K W' H' v (.tup ds) → Q v H') {p : Addr} (hp : H2 p = none) : Q (.ref p) (upd H2 p (.tup vs)) := by
  have sm : Same H2 (upd H2 p (.tup vs)) := Same.new hp
  exact q W2 _ (Le.same sm) (BI.same b sm) _ ⟨p, vs, rfl, SqT.of upd_same, Rps.mo (Le.same sm).toMo _ _ r⟩
/-- two operands -/
theorem two {α : Type} {ca cb : C} {f : D → D → Sto → Res α} {Qf : α → Sto → Wd → Hp → Prop} {R : V → V → Hp → Prop} (b : BIm K M W σd z σ H)
    (p : Post K M W σd σ H ((evE Z ca σd z).bind fun x z => (evE Z cb σd z).bind fun y z => f x y z) Qf)
    (k : ∀ d1 d2 v1 v2 z2 W2 H2, Le W H W2 H2 → BIm K M W2 σd z2 σ H2 → RpO K W2 σd σ H2 v1 d1 → RpO K W2 σd σ H2 v2 d2 → Post K M W2 σd σ H2 (f d1 d2 z2) Qf → R v1 v2 H2) :
    tE K M Z ca σ H fun x H1 => tE K M Z cb σ H1 fun y H2 => R x y H2 :=
  ⟨W, σd, z, b, (Post.of_bind p).mono fun d1 z1 W1 H1 l1 b1 p1 v1 r1 => ⟨W1, σd, z1, b1, (Post.of_bind p1).mono fun d2 z2 W2 H2 l2 b2 p2 v2 r2 =>
    k d1 d2 v1 v2 z2 W2 H2 (l1.trans l2) b2 (RpO.le b1 l2 (Rpx.op r1)) (Rpx.op r2) p2⟩⟩
theorem one {α : Type} {ca : C} {f : D → Sto → Res α} {Qf : α → Sto → Wd → Hp → Prop} {R : V → Hp → Prop} (b : BIm K M W σd z σ H)
    (p : Post K M W σd σ H ((evE Z ca σd z).bind f) Qf)
    (k : ∀ d1 v1 z2 W2 H2, Le W H W2 H2 → BIm K M W2 σd z2 σ H2 → RpO K W2 σd σ H2 v1 d1 → Post K M W2 σd σ H2 (f d1 z2) Qf → R v1 H2) :
    tE K M Z ca σ H fun x H1 => R x H1 :=
  ⟨W, σd, z, b, (Post.of_bind p).mono fun d1 z1 W1 H1 l1 b1 p1 v1 r1 => k d1 v1 z1 W1 H1 l1 b1 (Rpx.op r1) p1⟩

theorem strLen (l : List Nat) : (⟨l.toArray⟩ : Str).length = l.length := by simp [Str.length]
theorem strApp (x y : List Nat) : ((⟨x.toArray⟩ : Str) ++ (⟨y.toArray⟩ : Str)) = ⟨(x ++ y).toArray⟩ := by
  show (⟨x.toArray ++ y.toArray⟩ : Str) = _
  simp
theorem lim_eq : lim = sizeLine := rfl

/-! ### operators -/
def opOf : Bop → PySem.Operator
  | .add => .Add
  | .sub => .Sub
  | .mul => .Mult
  | .fdiv => .FloorDiv
  | .mod => .Mod
  | .pow => .Pow
def rAdd (K : PySem.W.Frag) : R2 := fun x y H Q => ((rI0 fun i j => V.int (i + j)) x y H Q ∨ (∃ i j, x = .str i ∧ y = .str j ∧ i.length + j.length ≤ sizeLine ∧ Q (.str (i ++ j)) H)) ∨ (rCat x y H Q ∨ rCatA K x y H Q)
def rMul (K : PySem.W.Frag) : R2 := fun x y H Q => ((rI CMulW fun i j => V.int (i * j)) x y H Q ∨ rRep x y H Q) ∨ (rRepT K x y H Q ∨ rRep1 K x y H Q)
def rFdv : R2 := fun x y H Q => (rI CDivN fun i j => V.int (i.fdiv j)) x y H Q ∨ (rI CDivW fun i j => V.int (i / j)) x y H Q
def rBop (K : PySem.W.Frag) : Bop → R2
  | .add => rAdd K
  | .sub => rI0 fun i j => .int (i - j)
  | .mul => rMul K
  | .fdiv => rFdv
  | .mod => rI (fun _ j => j ≠ 0) fun i j => .int (i.fmod j)
  | .pow => rI CPow fun i j => .int (i ^ j.toNat)
theorem op_bop {X : Cx} : ∀ o : Bop, OpR X (binaryOp (opOf o)) (rBop X.K o)
  | .add => (OpR.orr (OpR.orr op_add op_add_str) (OpR.orr op_cat op_catA))
  | .sub => op_sub
  | .mul => OpR.orr (OpR.orr op_mulW op_rep) (OpR.orr op_repT op_rep1)
  | .fdiv => OpR.orr op_fdivN op_fdivW
  | .mod => op_modN
  | .pow => op_pow
theorem Rps.rep {vs : List V} {ds : List D} (h : Rps K W H vs ds) : ∀ n : Nat, Rps K W H (List.replicate n vs).flatten (List.replicate n ds).flatten
  | 0 => trivial
  | n + 1 => by
    rw [List.replicate_succ, List.replicate_succ, List.flatten_cons, List.flatten_cons]
    exact Rps.app h (Rps.rep h n)
theorem sN_bin {X : Cx} {a b : PySem.Expr} {pos : PySem.Pos} {ca cb : C} (o : Bop) (ha : PE X a (tE X.K M Z ca)) (hb : PE X b (tE X.K M Z cb)) : PE X (.BinOp a (opOf o) b pos) (tN X.K M Z (.bin o ca cb)) := by
  refine (pe_op (op_bop o) ha hb).evi fun σ H Q h => ?_
  obtain ⟨W, σd, z, b, p⟩ := h
  refine two b p fun d1 d2 v1 v2 z2 W2 H2 l b2 r1 r2 p2 => ?_
  obtain ⟨d, e, q⟩ := Post.lift p2 b2
  have go : ∀ v, Rp X.K W2 H2 v d → (∀ ds, d ≠ .lst ds) → Q v H2 := fun v r hn => q W2 H2 Le.refl b2 v (by
    cases d with
    | lst ds => exact absurd rfl (hn ds)
    | _ => exact r)
  unfold binD at e
  split at e
  · cases e
    cases r1; cases r2
    exact .inl (.inl ⟨_, _, rfl, rfl, go _ rfl (fun _ z => nomatch z)⟩)
  · rename_i x y
    split at e
    · rename_i hl
      cases e
      obtain ⟨rfl, s1⟩ := r1
      obtain ⟨rfl, s2⟩ := r2
      refine .inl (.inr ⟨_, _, rfl, rfl, by rw [strLen, strLen]; exact hl, ?_⟩)
      rw [strApp]
      refine go _ ⟨rfl, ⟨?_, fun c hc => ?_⟩⟩ (fun _ z => nomatch z)
      · rw [List.length_append]; exact hl
      · rcases List.mem_append.mp hc with hc | hc
        · exact s1.2 c hc
        · exact s2.2 c hc
    · cases e
  · rename_i x y
    split at e
    · rename_i hl
      cases e
      obtain ⟨a1, us, rfl, f1, q1, s1⟩ := r1
      obtain ⟨a2, ws, rfl, f2, q2, s2⟩ := r2
      refine .inr (.inl ⟨_, _, _, _, rfl, rfl, q1, q2, by rw [s1.len, s2.len]; exact hl, fun p hp => ?_⟩)
      exact new_list (W0 := W) (fun a => l.none_of) b2 (Rps.app s1 s2) q hp
    · cases e
  · rename_i x y
    split at e
    · rename_i hl
      cases e
      obtain ⟨a1, us, rfl, q1, s1⟩ := r1
      obtain ⟨a2, ws, rfl, q2, s2⟩ := r2
      have l1 := s1.len
      have l2 := s2.len
      refine .inr (.inr ⟨_, _, _, _, rfl, rfl, q1, q2, by rw [l1, l2]; exact hl, fun z => ?_, fun _ z => ?_, fun _ _ p hp => ?_⟩)
      · subst z
        have : x = [] := List.length_eq_zero_iff.mp l1.symm
        subst this
        exact go _ ⟨a2, ws, rfl, q2, s2⟩ (fun _ z => nomatch z)
      · subst z
        have : y = [] := List.length_eq_zero_iff.mp l2.symm
        subst this
        refine go _ ⟨a1, us, rfl, q1, ?_⟩ (fun _ z => nomatch z)
        rw [List.append_nil]; exact s1
      · exact new_tup b2 (Rps.app s1 s2) (fun W' H' l' b' v r => q W' H' l' b' v r) hp
    · cases e
  · cases e
    cases r1; cases r2
    exact ⟨_, _, rfl, rfl, go _ rfl (fun _ z => nomatch z)⟩
  · split at e
    · rename_i hl
      cases e
      cases r1; cases r2
      exact .inl (.inl ⟨_, _, rfl, rfl, hl, go _ rfl (fun _ z => nomatch z)⟩)
    · cases e
  · rename_i x k
    split at e
    · rename_i hl
      cases e
      obtain ⟨a1, us, rfl, f1, q1, s1⟩ := r1
      cases r2
      refine .inl (.inr ⟨_, _, _, rfl, rfl, q1, hl.2.1, hl.2.2, by rw [s1.len]; exact hl.1, fun p hp => ?_⟩)
      exact new_list (W0 := W) (fun a => l.none_of) b2 (Rps.rep s1 _) q hp
    · cases e
  · rename_i x k
    split at e
    · rename_i hl
      cases e
      obtain ⟨a1, us, rfl, q1, s1⟩ := r1
      cases r2
      have ne : us ≠ [] := fun z => hl.1 (by
        have l1 := s1.len
        rw [z] at l1
        exact List.length_eq_zero_iff.mp l1.symm)
      by_cases h1 : k = 1
      · subst h1
        refine .inr (.inr ⟨_, _, rfl, rfl, q1, ne, go _ ⟨a1, us, rfl, q1, ?_⟩ (fun _ z => nomatch z)⟩)
        show Rps X.K W2 H2 us (List.replicate 1 x).flatten
        simpa using s1
      · refine .inr (.inl ⟨_, _, _, rfl, rfl, q1, ne, by omega, hl.2.2.1, by rw [s1.len]; exact hl.2.2.2, fun p hp => ?_⟩)
        exact new_tup b2 (Rps.rep s1 _) (fun W' H' l' b' v r => q W' H' l' b' v r) hp
    · cases e
  · rename_i i j
    split at e
    · rename_i hl
      cases e
      cases r1; cases r2
      rcases hl.2 with h9 | h9
      · exact .inl ⟨_, _, rfl, rfl, ⟨hl.1, h9⟩, go _ rfl (fun _ z => nomatch z)⟩
      · refine .inr ⟨_, _, rfl, rfl, h9, go _ ?_ (fun _ z => nomatch z)⟩
        show V.int (i / j) = V.int (i.fdiv j)
        rw [Int.fdiv_eq_ediv_of_nonneg _ (Int.le_of_lt h9.1)]
    · cases e
  · split at e
    · rename_i hl
      cases e
      cases r1; cases r2
      exact ⟨_, _, rfl, rfl, hl, go _ rfl (fun _ z => nomatch z)⟩
    · cases e
  · split at e
    · rename_i hl
      cases e
      cases r1; cases r2
      exact ⟨_, _, rfl, rfl, ⟨hl.1, by omega, hl.2.2⟩, go _ rfl (fun _ z => nomatch z)⟩
    · cases e
  · cases e
theorem sE_neg {X : Cx} {a : PySem.Expr} {pos : PySem.Pos} {ca : C} (ha : PE X a (tE X.K M Z ca)) : PE X (.UnaryOp .USub a pos) (tE X.K M Z (.neg ca)) := by
  refine (pe_un un_neg ha).evi fun σ H Q h => ?_
  obtain ⟨W, σd, z, b, p⟩ := h
  refine one b p fun d v z2 W2 H2 l b2 r p2 => ?_
  split at p2
  · cases r
    exact ⟨_, rfl, p2 W2 H2 Le.refl b2 _ rfl⟩
  · exact p2.elim
end
end EV

namespace EV
open PySem L2

/-! ### plain data in the library's own form -/
theorem beq_arr (x y : List Nat) : ((⟨x.toArray⟩ : Str) == ⟨y.toArray⟩) = (x == y) := by
  rw [Bool.eq_iff_iff, beq_iff_eq, beq_iff_eq]
  constructor
  · intro h
    have h2 : x.toArray = y.toArray := congrArg Str.cps h
    simpa using congrArg Array.toList h2
  · intro h; rw [h]
theorem beqC {α : Type} [BEq α] [LawfulBEq α] (a b : α) : (a == b) = (b == a) := by
  rw [Bool.eq_iff_iff, beq_iff_eq, beq_iff_eq]
  exact eq_comm
theorem eqvk_l : ∀ (q : List Ky) (ys : List D), D.plns ys = true → PyData.eqvAll (q.map kyPd) (D.pds ys) = D.eqvk q ys
  | [], [], _ => rfl
  | [], _ :: _, _ => rfl
  | k :: _, [], _ => by cases k <;> rfl
  | k :: q, y :: ys, hb => by
    have h2 : (y.pln && D.plns ys) = true := hb
    rw [Bool.and_eq_true] at h2
    have ih := eqvk_l q ys h2.2
    show (PyData.eqv (kyPd k) y.pd && PyData.eqvAll (q.map kyPd) (D.pds ys)) = _
    rw [ih]
    cases k with
    | i n => cases y <;> first | rfl | (simp [D.pln] at h2; done)
    | s x =>
      cases y <;> first | rfl | (simp [D.pln] at h2; done) | skip
      show (((⟨x.toArray⟩ : Str) == ⟨_⟩) && _) = _
      rw [beq_arr]; rfl
theorem eqvk_r : ∀ (q : List Ky) (ys : List D), D.plns ys = true → PyData.eqvAll (D.pds ys) (q.map kyPd) = D.eqvk q ys
  | [], [], _ => rfl
  | [], _ :: _, _ => rfl
  | k :: _, [], _ => by cases k <;> rfl
  | k :: q, y :: ys, hb => by
    have h2 : (y.pln && D.plns ys) = true := hb
    rw [Bool.and_eq_true] at h2
    have ih := eqvk_r q ys h2.2
    show (PyData.eqv y.pd (kyPd k) && PyData.eqvAll (D.pds ys) (q.map kyPd)) = _
    rw [ih]
    cases k with
    | i n =>
      cases y <;> first | rfl | (simp [D.pln] at h2; done) | (show ((_ == _) && _) = ((_ == _) && _); rw [beqC])
    | s x =>
      cases y <;> first | rfl | (simp [D.pln] at h2; done) | skip
      show (((⟨_⟩ : Str) == ⟨x.toArray⟩) && _) = ((_ == _) && _)
      rw [beq_arr, beqC]
theorem eqvk_k : ∀ (p q : List Ky), PyData.eqvAll (p.map kyPd) (q.map kyPd) = decide (p = q)
  | [], [] => rfl
  | [], _ :: _ => by simp [PyData.eqvAll]
  | k :: _, [] => by simp [PyData.eqvAll]
  | k :: p, j :: q => by
    show (PyData.eqv (kyPd k) (kyPd j) && PyData.eqvAll (p.map kyPd) (q.map kyPd)) = _
    rw [eqvk_k p q]
    have e : PyData.eqv (kyPd k) (kyPd j) = decide (k = j) := by
      cases k with
      | i n => cases j with
        | i m =>
          show (n == m) = _
          by_cases h : n = m
          · subst h; simp
          · rw [decide_eq_false (fun z => h (by cases z; rfl)), beq_eq_false_iff_ne.mpr h]
        | s y => simp [kyPd, PyData.eqv]
      | s x => cases j with
        | i m => simp [kyPd, PyData.eqv]
        | s y =>
          show ((⟨x.toArray⟩ : Str) == ⟨y.toArray⟩) = _
          rw [beq_arr]
          by_cases h : x = y
          · subst h; simp
          · rw [decide_eq_false (fun z => h (by cases z; rfl)), beq_eq_false_iff_ne.mpr h]
    rw [e]
    by_cases h1 : k = j
    · by_cases h2 : p = q
      · subst h1 h2; simp
      · simp [h1, h2]
    · simp [h1]
theorem kyPd_dep : ∀ q : List Ky, PyData.depthAll (q.map kyPd) = 0
  | [] => rfl
  | k :: q => by
    show max (kyPd k).depth (PyData.depthAll (q.map kyPd)) = 0
    rw [kyPd_dep q]
    cases k <;> rfl
mutual
theorem D.pd_eqv : ∀ (a b : D), a.pln = true → b.pln = true → PyData.eqv a.pd b.pd = D.eqv a b
  | .non, b, _, hb => by cases b <;> first | rfl | (simp [D.pln] at hb; done)
  | .bl x, b, _, hb => by cases b <;> first | rfl | (simp [D.pln] at hb; done)
  | .int x, b, _, hb => by cases b <;> first | rfl | (simp [D.pln] at hb; done)
  | .str x, b, _, hb => by
    cases b <;> first | rfl | (simp [D.pln] at hb; done) | exact beq_arr _ _
  | .tup x, b, ha, hb => by
    cases b <;> first | rfl | (simp [D.pln] at hb; done) | exact D.pds_eqv _ _ ha hb | exact eqvk_r _ _ ha
  | .lst x, b, ha, hb => by
    cases b <;> first | rfl | (simp [D.pln] at hb; done) | exact D.pds_eqv _ _ ha hb
  | .obj _ _, b, ha, _ => by simp [D.pln] at ha
  | .loc _, b, ha, _ => by simp [D.pln] at ha
  | .strm, b, ha, _ => by simp [D.pln] at ha
  | .ext _, b, ha, _ => by simp [D.pln] at ha
  | .ktp q, b, ha, hb => by
    cases b <;> first | rfl | (simp [D.pln] at hb; done) | exact eqvk_l _ _ hb | exact eqvk_k _ _
theorem D.pds_eqv : ∀ (a b : List D), D.plns a = true → D.plns b = true → PyData.eqvAll (D.pds a) (D.pds b) = D.eqvs a b
  | [], [], _, _ => rfl
  | [], _ :: _, _, _ => rfl
  | _ :: _, [], _, _ => rfl
  | x :: xs, y :: ys, ha, hb => by
    have h1 : (x.pln && D.plns xs) = true := ha
    have h2 : (y.pln && D.plns ys) = true := hb
    rw [Bool.and_eq_true] at h1 h2
    show (PyData.eqv x.pd y.pd && PyData.eqvAll (D.pds xs) (D.pds ys)) = (D.eqv x y && D.eqvs xs ys)
    rw [D.pd_eqv x y h1.1 h2.1, D.pds_eqv xs ys h1.2 h2.2]
end
mutual
theorem D.pd_dep : ∀ (a : D), a.pln = true → a.pd.depth = a.dep
  | .non, _ | .bl _, _ | .int _, _ | .str _, _ => rfl
  | .tup x, h => by
    show PyData.depthAll (D.pds x) + 1 = D.deps x + 1
    rw [D.pds_dep x h]
  | .lst x, h => by
    show PyData.depthAll (D.pds x) + 1 = D.deps x + 1
    rw [D.pds_dep x h]
  | .ktp q, h => by
    show PyData.depthAll (q.map kyPd) + 1 = 1
    rw [kyPd_dep]
  | .obj _ _, h | .loc _, h | .strm, h | .ext _, h => by simp [D.pln] at h
theorem D.pds_dep : ∀ (a : List D), D.plns a = true → PyData.depthAll (D.pds a) = D.deps a
  | [], _ => rfl
  | x :: xs, h => by
    have h1 : (x.pln && D.plns xs) = true := h
    rw [Bool.and_eq_true] at h1
    show max x.pd.depth (PyData.depthAll (D.pds xs)) = Nat.max x.dep (D.deps xs)
    rw [D.pd_dep x h1.1, D.pds_dep xs h1.2]
end
theorem D.pds_any (x : D) (hx : x.pln = true) : ∀ (ds : List D), D.plns ds = true → ((D.pds ds).any fun z => PyData.eqv z x.pd) = ds.any fun z => D.eqv z x
  | [], _ => rfl
  | d :: ds, h => by
    have h1 : (d.pln && D.plns ds) = true := h
    rw [Bool.and_eq_true] at h1
    show ((PyData.eqv d.pd x.pd) || (D.pds ds).any _) = (D.eqv d x || ds.any _)
    rw [D.pd_eqv d x h1.1 hx, D.pds_any x hx ds h1.2]
section
variable {K : PySem.W.Frag} {M : Mx} {Z : Cxt} {W : Wd} {σd : Sg} {z : Sto} {σ : St} {H : Hp}
theorem ky_dp {k : Ky} (h : KyOk k) : Dp K H (kV (kyK k)) (kyPd k) ∧ (kyPd k).canLay0 = true := by
  cases k with
  | i n => exact ⟨.int n, rfl⟩
  | s l =>
    refine ⟨.str _, ?_⟩
    have h2 : StrOk l := h
    show ((⟨l.toArray⟩ : Str).cps.all (· < 0x110000)) = true
    simp only [List.all_toArray, List.all_eq_true, decide_eq_true_eq]
    exact h2.2
theorem kys_dp : ∀ {q : List Ky}, (∀ k ∈ q, KyOk k) → DpAll K H ((q.map kyK).map kV) (q.map kyPd) ∧ PyData.canLayAll0 (q.map kyPd) = true
  | [], _ => ⟨.nil, rfl⟩
  | k :: q, h => by
    obtain ⟨a1, a2⟩ := ky_dp (K := K) (H := H) (h k List.mem_cons_self)
    obtain ⟨b1, b2⟩ := kys_dp fun x hx => h x (List.mem_cons_of_mem _ hx)
    refine ⟨.cons a1 b1, ?_⟩
    show ((kyPd k).canLay0 && PyData.canLayAll0 (q.map kyPd)) = true
    rw [a2, b2]; rfl
mutual
theorem Rp.dp : ∀ (d : D) (v : V), d.pln = true → Rp K W H v d → Dp K H v d.pd ∧ d.pd.canLay0 = true
  | .non, v, _, h => by cases h; exact ⟨.non, rfl⟩
  | .bl b, v, _, h => by cases h; exact ⟨.bl b, rfl⟩
  | .int i, v, _, h => by cases h; exact ⟨.int i, rfl⟩
  | .str l, v, _, h => by
    obtain ⟨rfl, s⟩ := h
    refine ⟨.str _, ?_⟩
    show ((⟨l.toArray⟩ : Str).cps.all (· < 0x110000)) = true
    simp only [List.all_toArray, List.all_eq_true, decide_eq_true_eq]
    exact s.2
  | .tup ds, v, hp, h => by
    obtain ⟨a, vs, rfl, q, r⟩ := h
    obtain ⟨r1, r2⟩ := Rps.dp ds vs hp r
    exact ⟨.tup q r1, r2⟩
  | .lst ds, v, hp, h => by
    obtain ⟨a, vs, rfl, f, q, r⟩ := h
    obtain ⟨r1, r2⟩ := Rps.dp ds vs hp r
    exact ⟨.lst (SqL.of q) r1, r2⟩
  | .obj _ _, _, hp, _ => by simp [D.pln] at hp
  | .loc _, _, hp, _ => by simp [D.pln] at hp
  | .strm, _, hp, _ => by simp [D.pln] at hp
  | .ext _, _, hp, _ => by simp [D.pln] at hp
  | .ktp q, v, hp, h => by
    obtain ⟨a, rfl, q1, k⟩ := h
    obtain ⟨r1, r2⟩ := kys_dp (K := K) (H := H) k
    exact ⟨.tup (.inl (.inl q1)) r1, r2⟩
theorem Rps.dp : ∀ (ds : List D) (vs : List V), D.plns ds = true → Rps K W H vs ds → DpAll K H vs (D.pds ds) ∧ PyData.canLayAll0 (D.pds ds) = true
  | [], [], _, _ => ⟨.nil, rfl⟩
  | d :: ds, v :: vs, hp, h => by
    have h1 : (d.pln && D.plns ds) = true := hp
    rw [Bool.and_eq_true] at h1
    obtain ⟨a1, a2⟩ := Rp.dp d v h1.1 h.1
    obtain ⟨b1, b2⟩ := Rps.dp ds vs h1.2 h.2
    refine ⟨.cons a1 b1, ?_⟩
    show (d.pd.canLay0 && PyData.canLayAll0 (D.pds ds)) = true
    rw [a2, b2]; rfl
  | [], _ :: _, _, h => h.elim
  | _ :: _, [], _, h => h.elim
end
theorem RpO.dp {d : D} {v : V} (hp : d.pln = true) (h : RpO K W σd σ H v d) : Dp K H v d.pd ∧ d.pd.canLay0 = true := by
  cases d with
  | lst ds =>
    obtain ⟨a, vs, rfl, f, q, r⟩ := h
    obtain ⟨r1, r2⟩ := Rps.dp ds vs hp r
    exact ⟨.lst (SqL.of q) r1, r2⟩
  | _ => exact Rp.dp (W := W) _ v hp h

/-! ### comparisons -/
def rEqW (K : PySem.W.Frag) (n : Bool) : R2 := fun x y H Q => ∃ d e, Dp K H x d ∧ Dp K H y e ∧ d.canLay0 = true ∧ e.canLay0 = true ∧ min d.depth e.depth ≤ 64 ∧ Q (.bl (if n then !PyData.eqv d e else PyData.eqv d e)) H
theorem op_eqW {X : Cx} (hu : X.A.units + 70 < cLine) : OpR X (compareOp .Eq) (rEqW X.K false) := by
  intro pins s σ H x y v u Q I rx ry h
  obtain ⟨d, e, hd, he, c1, c2, m, q⟩ := h
  obtain ⟨as, r1⟩ := Dp.reads I d x v hd rx
  obtain ⟨bs, r2⟩ := Dp.reads I e y u he ry
  exact SeqAt.compareEq_reads r1 r2 c1 c2 (by omega) ⟨.bl _, H, I, rfl, q⟩
theorem op_neW {X : Cx} (hu : X.A.units + 70 < cLine) : OpR X (compareOp .NotEq) (rEqW X.K true) := by
  intro pins s σ H x y v u Q I rx ry h
  obtain ⟨d, e, hd, he, c1, c2, m, q⟩ := h
  obtain ⟨as, r1⟩ := Dp.reads I d x v hd rx
  obtain ⟨bs, r2⟩ := Dp.reads I e y u he ry
  exact SeqAt.compareNe_reads r1 r2 c1 c2 (by omega) ⟨.bl _, H, I, rfl, q⟩
def rInW (K : PySem.W.Frag) (n : Bool) : R2 := fun x y H Q => ∃ d ds c, (c = PyData.list ds ∨ c = PyData.tuple ds) ∧ Dp K H x d ∧ Dp K H y c ∧ d.canLay0 = true ∧ PyData.canLayAll0 ds = true ∧ min (PyData.depthAll ds) d.depth ≤ 64 ∧ Q (.bl (if n then !(ds.any fun z => PyData.eqv z d) else ds.any fun z => PyData.eqv z d)) H
theorem op_inW {X : Cx} (hu : X.A.units + 70 < cLine) : OpR X (compareOp .In) (rInW X.K false) := by
  intro pins s σ H x y v u Q I rx ry h
  obtain ⟨d, ds, c, hc, hd, he, c1, c2, m, q⟩ := h
  obtain ⟨as, r1⟩ := Dp.reads I d x v hd rx
  obtain ⟨bs, r2⟩ := Dp.reads I c y u he ry
  rcases hc with rfl | rfl
  · exact SeqAt.in_list_reads r2 r1 c2 c1 (by omega) ⟨.bl _, H, I, rfl, q⟩
  · exact SeqAt.in_tuple_reads r2 r1 c2 c1 (by omega) ⟨.bl _, H, I, rfl, q⟩
theorem op_ninW {X : Cx} (hu : X.A.units + 70 < cLine) : OpR X (compareOp .NotIn) (rInW X.K true) := by
  intro pins s σ H x y v u Q I rx ry h
  obtain ⟨d, ds, c, hc, hd, he, c1, c2, m, q⟩ := h
  obtain ⟨as, r1⟩ := Dp.reads I d x v hd rx
  obtain ⟨bs, r2⟩ := Dp.reads I c y u he ry
  rcases hc with rfl | rfl
  · exact SeqAt.notIn_list_reads r2 r1 c2 c1 (by omega) ⟨.bl _, H, I, rfl, q⟩
  · exact SeqAt.notIn_tuple_reads r2 r1 c2 c1 (by omega) ⟨.bl _, H, I, rfl, q⟩
def rOrd (K : PySem.W.Frag) (n : Bool) : R2 := fun x y H Q => ∃ d e, Dp K H x d ∧ Dp K H y e ∧ PySem.W.alike d e = true ∧ d ≠ .none ∧ min d.depth e.depth ≤ 64 ∧ Q (.bl (if n then !PySem.W.dataLt e d else PySem.W.dataLt d e)) H
theorem op_ltO {X : Cx} (hu : X.A.units + 70 < cLine) : OpR X (compareOp .Lt) (rOrd X.K false) := by
  intro pins s σ H x y v u Q I rx ry h
  obtain ⟨d, e, hd, he, c1, c2, m, q⟩ := h
  obtain ⟨as, r1⟩ := Dp.reads I d x v hd rx
  obtain ⟨bs, r2⟩ := Dp.reads I e y u he ry
  exact PySem.W.lt_data r1 r2 c1 c2 (by omega) ⟨.bl _, H, I, rfl, q⟩
theorem op_leO {X : Cx} (hu : X.A.units + 70 < cLine) : OpR X (compareOp .LtE) (rOrd X.K true) := by
  intro pins s σ H x y v u Q I rx ry h
  obtain ⟨d, e, hd, he, c1, c2, m, q⟩ := h
  obtain ⟨as, r1⟩ := Dp.reads I d x v hd rx
  obtain ⟨bs, r2⟩ := Dp.reads I e y u he ry
  exact PySem.W.le_data r1 r2 c1 c2 (by omega) ⟨.bl _, H, I, rfl, q⟩
def cpOf : Cop → PySem.CmpOp
  | .eq => .Eq
  | .ne => .NotEq
  | .lt => .Lt
  | .le => .LtE
  | .gt => .Gt
  | .ge => .GtE
  | .inn => .In
  | .nin => .NotIn
def rCop (K : PySem.W.Frag) : Cop → R2
  | .eq => rEqW K false
  | .ne => rEqW K true
  | .lt => fun x y H Q => rI0 (fun i j => .bl (decide (i < j))) x y H Q ∨ rOrd K false x y H Q
  | .le => fun x y H Q => rI0 (fun i j => .bl (decide (i ≤ j))) x y H Q ∨ rOrd K true x y H Q
  | .gt => rI0 fun i j => .bl (decide (j < i))
  | .ge => rI0 fun i j => .bl (decide (j ≤ i))
  | .inn => fun x y H Q => (rInW K false x y H Q ∨ (∃ i j, x = .str i ∧ y = .str j ∧ Q (.bl (!(Builtin.Str.occurrences j i 0 j.length 1).isEmpty)) H)) ∨ (∃ (c : Nat) (z : Str), x = .str ⟨#[c]⟩ ∧ y = .str z ∧ Q (.bl (decide (c ∈ z.cps.toList))) H)
  | .nin => fun x y H Q => (rInW K true x y H Q ∨ (∃ i j, x = .str i ∧ y = .str j ∧ Q (.bl (!(!(Builtin.Str.occurrences j i 0 j.length 1).isEmpty))) H)) ∨ (∃ (c : Nat) (z : Str), x = .str ⟨#[c]⟩ ∧ y = .str z ∧ Q (.bl (!decide (c ∈ z.cps.toList))) H)
theorem op_cop {X : Cx} (hu : X.A.units + 70 < cLine) : ∀ o : Cop, OpR X (compareOp (cpOf o)) (rCop X.K o)
  | .eq => op_eqW hu
  | .ne => op_neW hu
  | .lt => OpR.orr op_lt (op_ltO hu)
  | .le => OpR.orr op_le (op_leO hu)
  | .gt => op_gt
  | .ge => op_ge
  | .inn => OpR.orr (OpR.orr (op_inW hu) op_in_str) op_in_sign
  | .nin => OpR.orr (OpR.orr (op_ninW hu) op_notIn_str) op_notIn_sign
def noset : PySem.Expr → Bool
  | .Set _ _ _ => false
  | _ => true
theorem marks_no {b : PySem.Expr} (h : noset b = true) (op : PySem.CmpOp) : behindInMarks op b = false := by
  cases b <;> first | rfl | exact nomatch h
theorem int2_ok {d1 d2 : D} {v1 v2 : V} {k : Bool} {Q : VK} (f : Int → Int → Bool) (h : (match d1, d2 with
      | .int i, .int j => some (f i j)
      | _, _ => none) = some k) (r1 : RpO K W σd σ H v1 d1) (r2 : RpO K W σd σ H v2 d2) (q : Q (.bl k) H) : (rI0 fun i j => V.bl (f i j)) v1 v2 H Q := by
  cases d1 with
  | int i => cases d2 with
    | int j =>
      cases r1; cases r2; cases h
      exact ⟨_, _, rfl, rfl, q⟩
    | _ => cases h
  | _ => cases h
theorem eqn_ok {d1 d2 : D} {v1 v2 : V} {k k' n : Bool} {Q : VK} (r1 : RpO K W σd σ H v1 d1) (r2 : RpO K W σd σ H v2 d2) (h : eqD d1 d2 = some k') (hk : k = (if n then !k' else k')) (q : Q (.bl k) H) : rEqW K n v1 v2 H Q := by
  unfold eqD at h
  split at h
  · rename_i hc
    simp only [Bool.and_eq_true, decide_eq_true_eq] at hc
    obtain ⟨⟨h1, h2⟩, h3⟩ := hc
    obtain ⟨p1, c1⟩ := RpO.dp h1 r1
    obtain ⟨p2, c2⟩ := RpO.dp h2 r2
    refine ⟨_, _, p1, p2, c1, c2, ?_, ?_⟩
    · rw [D.pd_dep _ h1, D.pd_dep _ h2]; exact h3
    · rw [D.pd_eqv _ _ h1 h2, Option.some.inj h, ← hk]; exact q
  · cases h
theorem ord_ok {d1 d2 : D} {v1 v2 : V} {k n : Bool} {Q : VK} (h : ordD n d1 d2 = some k) (r1 : RpO K W σd σ H v1 d1) (r2 : RpO K W σd σ H v2 d2) (q : Q (.bl k) H) : rOrd K n v1 v2 H Q := by
  unfold ordD at h
  split at h
  · rename_i x y
    split at h
    · rename_i hc
      simp only [Bool.and_eq_true, decide_eq_true_eq] at hc
      obtain ⟨⟨h1, h2⟩, h3, h4⟩ := hc
      have p1 : D.pln (.lst x) = true := h1
      have p2 : D.pln (.lst y) = true := h2
      refine ⟨_, _, (RpO.dp p1 r1).1, (RpO.dp p2 r2).1, h4, (fun e => nomatch e), ?_, ?_⟩
      · rw [D.pd_dep _ p1, D.pd_dep _ p2]
        show min (D.deps x + 1) (D.deps y + 1) ≤ 64
        have h3 : min (D.deps x) (D.deps y) ≤ 60 := h3
        omega
      · rw [← Option.some.inj h] at q
        exact q
    · cases h
  · cases h
theorem intO_ok {d1 d2 : D} {v1 v2 : V} {k n : Bool} {Q : VK} (f : Int → Int → Bool) (h : (match d1, d2 with
      | .int i, .int j => some (f i j)
      | a, b => ordD n a b) = some k) (r1 : RpO K W σd σ H v1 d1) (r2 : RpO K W σd σ H v2 d2) (q : Q (.bl k) H) : (rI0 (fun i j => V.bl (f i j)) v1 v2 H Q) ∨ rOrd K n v1 v2 H Q := by
  split at h
  · cases r1; cases r2; cases h
    exact .inl ⟨_, _, rfl, rfl, q⟩
  · exact .inr (ord_ok h r1 r2 q)
theorem inn_ok {d1 d2 : D} {v1 v2 : V} {k k' n : Bool} {Q : VK} (r1 : RpO K W σd σ H v1 d1) (r2 : RpO K W σd σ H v2 d2) (h : inD d1 d2 = some k') (hk : k = (if n then !k' else k')) (q : Q (.bl k) H) :
    (rInW K n v1 v2 H Q ∨ (∃ i j, v1 = .str i ∧ v2 = .str j ∧ Q (.bl (if n then !(!(Builtin.Str.occurrences j i 0 j.length 1).isEmpty) else !(Builtin.Str.occurrences j i 0 j.length 1).isEmpty)) H)) ∨ (∃ (c : Nat) (z : Str), v1 = .str ⟨#[c]⟩ ∧ v2 = .str z ∧ Q (.bl (if n then !decide (c ∈ z.cps.toList) else decide (c ∈ z.cps.toList))) H) := by
  have seq : ∀ (ds : List D) (c : D), (c = .lst ds ∨ c = .tup ds) → RpO K W σd σ H v2 c → (if d1.pln && D.plns ds && decide (Nat.min (D.deps ds) d1.dep ≤ 64) then some (ds.any fun z => D.eqv z d1) else none) = some k' → rInW K n v1 v2 H Q := fun ds c hc r2 h => by
    split at h
    · rename_i h0
      simp only [Bool.and_eq_true, decide_eq_true_eq] at h0
      obtain ⟨⟨h1, h2⟩, h3⟩ := h0
      obtain ⟨p1, c1⟩ := RpO.dp h1 r1
      have hp : c.pln = true := by rcases hc with rfl | rfl <;> exact h2
      obtain ⟨p2, c2⟩ := RpO.dp hp r2
      have hl : c.pd = .list (D.pds ds) ∨ c.pd = .tuple (D.pds ds) := by rcases hc with rfl | rfl; exact .inl rfl; exact .inr rfl
      have c3 : PyData.canLayAll0 (D.pds ds) = true := by rcases hc with rfl | rfl <;> exact c2
      refine ⟨_, D.pds ds, _, hl, p1, p2, c1, c3, ?_, ?_⟩
      · rw [D.pd_dep _ h1, D.pds_dep _ h2]; exact h3
      · rw [D.pds_any _ h1 _ h2, Option.some.inj h, ← hk]; exact q
    · cases h
  cases d2 with
  | str y =>
    cases d1 with
    | str x =>
      obtain ⟨rfl, _⟩ := r1
      obtain ⟨rfl, _⟩ := r2
      have gen : (∃ c, x = [c]) ∨ inD (.str x) (.str y) = some (!(Builtin.Str.occurrences ⟨y.toArray⟩ ⟨x.toArray⟩ 0 y.length 1).isEmpty) := by
        match x with
        | [] => exact .inr rfl
        | [c] => exact .inl ⟨c, rfl⟩
        | _ :: _ :: _ => exact .inr rfl
      rcases gen with ⟨c, rfl⟩ | gen
      · have h := Option.some.inj h
        refine .inr ⟨c, _, rfl, rfl, ?_⟩
        rw [show (⟨y.toArray⟩ : Str).cps.toList = y by simp, h, ← hk]
        exact q
      · rw [gen] at h
        have h := Option.some.inj h
        refine .inl (.inr ⟨_, _, rfl, rfl, ?_⟩)
        rw [strLen, h, ← hk]
        exact q
    | _ => cases h
  | lst ds => exact .inl (.inl (seq ds _ (.inl rfl) r2 h))
  | tup ds => exact .inl (.inl (seq ds _ (.inr rfl) r2 h))
  | _ => cases h
/-- what the comparison's rule asks, from the evaluator's answer -/
theorem cop_ok {o : Cop} {d1 d2 : D} {v1 v2 : V} {k : Bool} {Q : VK} (e : cmpD o d1 d2 = some k) (r1 : RpO K W σd σ H v1 d1) (r2 : RpO K W σd σ H v2 d2) (q : Q (.bl k) H) : rCop K o v1 v2 H Q := by
  cases o with
  | eq => exact eqn_ok (n := false) r1 r2 e rfl q
  | ne =>
    obtain ⟨k', h1, h2⟩ := Option.map_eq_some_iff.mp e
    exact eqn_ok (n := true) r1 r2 h1 h2.symm q
  | lt => exact intO_ok _ e r1 r2 q
  | le => exact intO_ok _ e r1 r2 q
  | gt => exact int2_ok _ e r1 r2 q
  | ge => exact int2_ok _ e r1 r2 q
  | inn => exact inn_ok (n := false) r1 r2 e rfl q
  | nin =>
    obtain ⟨k', h1, h2⟩ := Option.map_eq_some_iff.mp e
    exact inn_ok (n := true) r1 r2 h1 h2.symm q
theorem sE_cmp {X : Cx} {a b : PySem.Expr} {pos : PySem.Pos} {ca cb : C} (hu : X.A.units + 70 < cLine) (o : Cop) (hs : noset b = true) (ha : PE X a (tE X.K M Z ca)) (hb : PE X b (tE X.K M Z cb)) : PE X (.Compare a [cpOf o] [b] pos) (tE X.K M Z (.cmp o ca cb)) := by
  refine (pe_cmpR (op_cop hu o) ha hb (marks_no hs _)).evi fun σ H Q h => ?_
  obtain ⟨W, σd, z, b, p⟩ := h
  refine two b p fun d1 d2 v1 v2 z2 W2 H2 l b2 r1 r2 p2 => ?_
  obtain ⟨k, e, q⟩ := Post.lift (Post.of_bind p2) b2
  exact cop_ok e r1 r2 (q W2 H2 Le.refl b2 W2 H2 Le.refl b2 _ rfl)
theorem sT_cmp {X : Cx} {a b : PySem.Expr} {pos : PySem.Pos} {ca cb : C} (hu : X.A.units + 70 < cLine) (o : Cop) (hs : noset b = true) (ha : PE X a (tE X.K M Z ca)) (hb : PE X b (tE X.K M Z cb)) : PT X (.Compare a [cpOf o] [b] pos) (tB X.K M Z (.cmp o ca cb)) := by
  refine (pt_cmpR (op_cop hu o) ha hb (marks_no hs _)).evi fun σ H Q h => ?_
  obtain ⟨W, σd, z, b, p⟩ := h
  have p' : Post X.K M W σd σ H ((evE Z ca σd z).bind fun x z => (evE Z cb σd z).bind fun y z => (lift (cmpD o x y) z)) fun k _ _ H' => Q k H' := by
    have hp : ((evE Z (.cmp o ca cb) σd z).bind fun x z => lift (truD x) z) = ((evE Z ca σd z).bind fun x z => (evE Z cb σd z).bind fun y z => (lift (cmpD o x y) z)) := by
      show ((evE Z ca σd z).bind fun x z => (evE Z cb σd z).bind fun y z => (lift (cmpD o x y) z).bind fun k z => Res.ok (D.bl k) z).bind _ = _
      cases evE Z ca σd z with
      | ok x z1 =>
        simp only [Res.bind_ok]
        cases evE Z cb σd z1 with
        | ok y z2 =>
          simp only [Res.bind_ok]
          cases cmpD o x y <;> rfl
        | exn _ _ => rfl
        | err => rfl
      | exn _ _ => rfl
      | err => rfl
    rw [hp] at p
    exact p
  refine two b p' fun d1 d2 v1 v2 z2 W2 H2 l b2 r1 r2 p2 => ?_
  obtain ⟨k, e, q⟩ := Post.lift p2 b2
  exact cop_ok e r1 r2 ⟨k, rfl, q W2 H2 Le.refl b2⟩
end
end EV

namespace EV
open PySem L2
section
variable {K : PySem.W.Frag} {M : Mx} {Z : Cxt} {W : Wd} {σd : Sg} {z : Sto} {σ : St} {H : Hp}

/-! ### truth -/
theorem tru_of {d : D} {v : V} {k : Bool} (e : truD d = some k) (r : RpO K W σd σ H v d) : TruV K v H k := by
  cases d with
  | non => cases e; cases r; rfl
  | bl b => cases e; cases r; rfl
  | int i => cases e; cases r; rfl
  | str s =>
    obtain ⟨rfl, ok⟩ := r
    cases e
    refine ⟨by rw [strLen]; exact ok.1, ?_⟩
    rw [strLen]
    cases s with
    | nil => rfl
    | cons c cs =>
      have h : ((((c :: cs).length : Nat) : Int) != 0) = true := by
        rw [bne_iff_ne, List.length_cons]; omega
      rw [h]; rfl
  | tup ds =>
    obtain ⟨a, vs, rfl, q, r⟩ := r
    cases e
    refine .inr (.inl ⟨vs, q, ?_⟩)
    have l := r.len
    cases vs <;> cases ds <;> first | rfl | (simp at l)
  | lst ds =>
    obtain ⟨a, vs, rfl, f, q, r⟩ := r
    cases e
    refine .inl ⟨vs, SqL.of q, ?_⟩
    have l := r.len
    cases vs <;> cases ds <;> first | rfl | (simp at l)
  | ktp ks =>
    obtain ⟨a, rfl, q, r⟩ := Rp.ktup (W := W) r
    cases e
    refine .inr (.inl ⟨_, q, ?_⟩)
    cases ks <;> rfl
  | _ => cases e
def plainT : PySem.Expr → Bool
  | .UnaryOp .Not _ _ => false
  | .BoolOp _ _ _ => false
  | .IfExp _ _ _ _ => false
  | .Compare _ _ _ _ => false
  | _ => true
theorem plainT_ok {e : PySem.Expr} (h : plainT e = true) (env : PySem.Env) (whole : Sem Value) : isTrue e env whole = (do let v ← whole; standAt e.pos; holding [v] (truthy v)) := by
  cases e with
  | UnaryOp op a pos => cases op <;> first | rfl | exact nomatch h
  | _ => first | rfl | exact nomatch h
/-- any expression as a test -/
theorem sT_any {X : Cx} {e : PySem.Expr} {c : C} (hp : plainT e = true) (h : PE X e (tE X.K M Z c)) : PT X e (tB X.K M Z c) := by
  refine (pt_truth h fun wh => plainT_ok hp _ wh).evi fun σ H Q h => ?_
  obtain ⟨W, σd, z, b, p⟩ := h
  refine one b p fun d v z2 W2 H2 l b2 r p2 => ?_
  obtain ⟨k, e, q⟩ := Post.lift p2 b2
  exact ⟨k, tru_of e r, q W2 H2 Le.refl b2⟩

/-! ### comparisons in a chain; is -/
theorem lastm {b c : PySem.Expr} (hb : noset b = true) (hc : noset c = true) (o p : PySem.CmpOp) : lastMarks [o, p] [b, c] = false := by
  show lastMarks [p] [c] = false
  exact marks_no hc p
theorem sE_chn {X : Cx} {a b c : PySem.Expr} {pos : PySem.Pos} {ca cb cc : C} (hu : X.A.units + 70 < cLine) (o p : Cop) (hb' : isBor cb = false) (hs : noset b = true) (hs2 : noset c = true) (ha : PE X a (tE X.K M Z ca)) (hb : PE X b (tE X.K M Z cb)) (hc : PE X c (tE X.K M Z cc)) :
    PE X (.Compare a [cpOf o, cpOf p] [b, c] pos) (tE X.K M Z (.chn o p ca cb cc)) := by
  refine (pe_chain (op_cop hu o) (op_cop hu p) ha hb hc (lastm hs hs2 _ _)).evi fun σ H Q h => ?_
  obtain ⟨W, σd, z, b, q⟩ := h
  refine two b q fun d1 d2 v1 v2 z2 W2 H2 l b2 r1 r2 p2 => ?_
  obtain ⟨k, e, q2⟩ := Post.lift (Post.of_bind p2) b2
  refine cop_ok e r1 r2 ⟨k, rfl, ?_⟩
  have p3 := q2 W2 H2 Le.refl b2
  cases k with
  | false => exact p3 W2 H2 Le.refl b2 _ rfl
  | true =>
    refine one b2 p3 fun d3 v3 z3 W3 H3 l3 b3 r3 p4 => ?_
    obtain ⟨k2, e2, q4⟩ := Post.lift (Post.of_bind p4) b3
    exact cop_ok e2 (RpO.le b2 l3 r2) r3 (q4 W3 H3 Le.refl b3 W3 H3 Le.refl b3 _ rfl)
theorem sT_chn {X : Cx} {a b c : PySem.Expr} {pos : PySem.Pos} {ca cb cc : C} (hu : X.A.units + 70 < cLine) (o p : Cop) (hb' : isBor cb = false) (hs : noset b = true) (hs2 : noset c = true) (ha : PE X a (tE X.K M Z ca)) (hb : PE X b (tE X.K M Z cb)) (hc : PE X c (tE X.K M Z cc)) :
    PT X (.Compare a [cpOf o, cpOf p] [b, c] pos) (tB X.K M Z (.chn o p ca cb cc)) := by
  refine (pt_chain (op_cop hu o) (op_cop hu p) ha hb hc (lastm hs hs2 _ _)).evi fun σ H Q h => ?_
  obtain ⟨W, σd, z, b, q⟩ := h
  have q' := Post.of_bind q
  refine two (Qf := fun d z1 W1 H1 => Post X.K M W1 σd σ H1 (lift (truD d) z1) fun b _ _ H' => Q b H') b q' fun d1 d2 v1 v2 z2 W2 H2 l b2 r1 r2 p2 => ?_
  obtain ⟨k, e, q2⟩ := Post.lift (Post.of_bind p2) b2
  refine cop_ok e r1 r2 ⟨k, rfl, ?_⟩
  have p3 := q2 W2 H2 Le.refl b2
  cases k with
  | false => exact ⟨_, rfl, p3 W2 H2 Le.refl b2 W2 H2 Le.refl b2⟩
  | true =>
    refine one b2 p3 fun d3 v3 z3 W3 H3 l3 b3 r3 p4 => ?_
    obtain ⟨k2, e2, q4⟩ := Post.lift (Post.of_bind p4) b3
    exact cop_ok e2 (RpO.le b2 l3 r2) r3 ⟨_, rfl, q4 W3 H3 Le.refl b3 W3 H3 Le.refl b3 W3 H3 Le.refl b3⟩
theorem isnon_of {d : D} {v : V} (r : RpO K W σd σ H v d) : (decide (v = V.non)) = (match d with | .non => true | _ => false) := by
  cases d with
  | non => cases r; rfl
  | bl b => cases r; rfl
  | int i => cases r; rfl
  | str s => obtain ⟨rfl, _⟩ := r; rfl
  | tup ds => obtain ⟨a, vs, rfl, _⟩ := r; rfl
  | lst ds => obtain ⟨a, vs, rfl, _⟩ := r; rfl
  | ext ds => obtain ⟨a, rfl, _⟩ := r; rfl
  | loc ds => obtain ⟨a, rfl, _⟩ := r; rfl
  | strm => obtain ⟨a, rfl, _⟩ := r; rfl
  | ktp _ => obtain ⟨a, rfl, _⟩ := r; rfl
  | obj _ _ => exact r.elim
theorem sE_isN {X : Cx} {a : PySem.Expr} {pos p2 : PySem.Pos} {j : Nat} {ca : C} (n : Bool) (ha : PE X a (tE X.K M Z ca)) : PE X (.Compare a [if n then .IsNot else .Is] [.Constant .none j p2] pos) (tE X.K M Z (.isN n ca)) := by
  have go : ∀ (σ : St) (H : Hp) (Q : VK), tE X.K M Z (.isN n ca) σ H Q → tE X.K M Z ca σ H fun x H1 => Q (.bl (if n then !decide (x = .non) else decide (x = .non))) H1 := fun σ H Q h => by
    obtain ⟨W, σd, z, b, p⟩ := h
    refine one b p fun d v z2 W2 H2 l b2 r p2 => ?_
    rw [isnon_of r]
    cases d <;> cases n <;> exact p2 W2 H2 Le.refl b2 _ rfl
  cases n with
  | false =>
      refine (pe_cmpR op_isN ha pe_non (nomark _)).evi fun σ H Q h => ?_
      obtain ⟨W, σd, z, b, p⟩ := go σ H Q h
      exact ⟨W, σd, z, b, p.mono fun d z1 W1 H1 l1 b1 q v r => ⟨rfl, q v r⟩⟩
  | true =>
      refine (pe_cmpR op_notN ha pe_non (nomark _)).evi fun σ H Q h => ?_
      obtain ⟨W, σd, z, b, p⟩ := go σ H Q h
      exact ⟨W, σd, z, b, p.mono fun d z1 W1 H1 l1 b1 q v r => ⟨rfl, q v r⟩⟩
theorem sE_isB {X : Cx} {a : PySem.Expr} {pos p2 : PySem.Pos} {j : Nat} {ca : C} (n k : Bool) (ha : PE X a (tE X.K M Z ca)) : PE X (.Compare a [if n then .IsNot else .Is] [.Constant (.bool k) j p2] pos) (tE X.K M Z (.isB n k ca)) := by
  have go : ∀ (σ : St) (H : Hp) (Q : VK), tE X.K M Z (.isB n k ca) σ H Q → tE X.K M Z ca σ H fun x H1 => ∃ c, x = .bl c ∧ Q (.bl (if n then c != k else c == k)) H1 := fun σ H Q h => by
    obtain ⟨W, σd, z, b, p⟩ := h
    refine one b p fun d v z2 W2 H2 l b2 r p2 => ?_
    split at p2
    · cases r
      exact ⟨_, rfl, p2 W2 H2 Le.refl b2 _ rfl⟩
    · exact p2.elim
  cases n with
  | false =>
      refine (pe_cmpR op_isBl ha pe_bl (nomark _)).evi fun σ H Q h => ?_
      obtain ⟨W, σd, z, b, p⟩ := go σ H Q h
      refine ⟨W, σd, z, b, p.mono fun d z1 W1 H1 l1 b1 q v r => ?_⟩
      obtain ⟨c, rfl, q⟩ := q v r
      refine ⟨c, k, rfl, rfl, ?_⟩
      rw [show decide (c = k) = (if false then c != k else c == k) by cases c <;> cases k <;> rfl]
      exact q
  | true =>
      refine (pe_cmpR op_notBl ha pe_bl (nomark _)).evi fun σ H Q h => ?_
      obtain ⟨W, σd, z, b, p⟩ := go σ H Q h
      refine ⟨W, σd, z, b, p.mono fun d z1 W1 H1 l1 b1 q v r => ?_⟩
      obtain ⟨c, rfl, q⟩ := q v r
      refine ⟨c, k, rfl, rfl, ?_⟩
      rw [show (!decide (c = k)) = (if true then c != k else c == k) by cases c <;> cases k <;> rfl]
      exact q

/-! ### a comparison with is, as a test -/
theorem sT_is {X : Cx} {a e2 : PySem.Expr} {pos : PySem.Pos} {op : PySem.CmpOp} {c : C} (hb : ∀ (σd : Sg) (z : Sto) d z', evE Z c σd z = .ok d z' → ∃ k, d = .bl k) (h1 : isBor c = false) (h : PE X (.Compare a [op] [e2] pos) (tE X.K M Z c))
    (hx : ∀ (t : TE), PE X (.Compare a [op] [e2] pos) t → PT X (.Compare a [op] [e2] pos) (tTest t)) : PT X (.Compare a [op] [e2] pos) (tB X.K M Z c) := by
  refine (hx _ h).evi fun σ H Q h => ?_
  obtain ⟨W, σd, z, b, p⟩ := h
  refine ⟨W, σd, z, b, ?_⟩
  have p' := Post.of_bind p
  cases e : evE Z c σd z with
  | exn x z' => rw [e] at p'; exact p'
  | err => rw [e] at p'; exact p'
  | ok d z' =>
    rw [e] at p'
    obtain ⟨k, rfl⟩ := hb _ _ _ _ e
    intro W' H' l b' v r
    have r := (Rpx_no h1).mp r
    cases r
    exact ⟨k, rfl, p' W' H' l b' W' H' Le.refl b'⟩

/-! ### and, or, not, if -/
theorem sE_and {X : Cx} {a b : PySem.Expr} {rest : List PySem.Expr} {pos : PySem.Pos} {ca cb : C} (h1 : isBor ca = false) (h2 : isBor cb = false) (ha : PE X a (tE X.K M Z ca)) (hb : PE X (.BoolOp .And (b :: rest) pos) (tE X.K M Z cb)) : PE X (.BoolOp .And (a :: b :: rest) pos) (tE X.K M Z (.and ca cb)) := by
  refine (pe_andT ha hb).evi fun σ H Q h => ?_
  obtain ⟨W, σd, z, b, p⟩ := h
  refine ⟨W, σd, z, b, (Post.of_bind p).mono fun d z1 W1 H1 l1 b1 p1 v r => ?_⟩
  have r := (Rpx_no h1).mp r
  obtain ⟨k, e, q⟩ := Post.lift (Post.of_bind p1) b1
  refine ⟨k, tru_of e (Rp.toO (σd := σd) (σ := σ) r), ?_⟩
  have p2 := q W1 H1 Le.refl b1
  cases k with
  | true => exact ⟨W1, σd, z1, b1, p2.mono fun d z W' H' _ _ q v r => q v ((Rpx_no rfl).mpr ((Rpx_no h2).mp r))⟩
  | false => exact p2 W1 H1 Le.refl b1 v ((Rpx_no rfl).mpr r)
theorem sE_or {X : Cx} {a b : PySem.Expr} {rest : List PySem.Expr} {pos : PySem.Pos} {ca cb : C} (h1 : isBor ca = false) (h2 : isBor cb = false) (ha : PE X a (tE X.K M Z ca)) (hb : PE X (.BoolOp .Or (b :: rest) pos) (tE X.K M Z cb)) : PE X (.BoolOp .Or (a :: b :: rest) pos) (tE X.K M Z (.or ca cb)) := by
  refine (pe_orT ha hb).evi fun σ H Q h => ?_
  obtain ⟨W, σd, z, b, p⟩ := h
  refine ⟨W, σd, z, b, (Post.of_bind p).mono fun d z1 W1 H1 l1 b1 p1 v r => ?_⟩
  have r := (Rpx_no h1).mp r
  obtain ⟨k, e, q⟩ := Post.lift (Post.of_bind p1) b1
  refine ⟨k, tru_of e (Rp.toO (σd := σd) (σ := σ) r), ?_⟩
  have p2 := q W1 H1 Le.refl b1
  cases k with
  | false => exact ⟨W1, σd, z1, b1, p2.mono fun d z W' H' _ _ q v r => q v ((Rpx_no rfl).mpr ((Rpx_no h2).mp r))⟩
  | true => exact p2 W1 H1 Le.refl b1 v ((Rpx_no rfl).mpr r)
theorem sE_one {X : Cx} {a : PySem.Expr} {op : PySem.BoolOp} {pos : PySem.Pos} {ca : C} (h1 : isBor ca = false) (ha : PE X a (tE X.K M Z ca)) : PE X (.BoolOp op [a] pos) (tE X.K M Z (.one ca)) :=
  (pe_one ha).evi fun σ H Q ⟨W, σd, z, b, p⟩ => ⟨W, σd, z, b, Post.mono (r := evE Z ca σd z) p fun d z W' H' _ _ q v r => q v ((Rpx_no rfl).mpr ((Rpx_no h1).mp r))⟩
theorem sE_not {X : Cx} {a : PySem.Expr} {pos : PySem.Pos} {ca : C} (ha : PE X a (tE X.K M Z ca)) : PE X (.UnaryOp .Not a pos) (tE X.K M Z (.not ca)) := by
  refine (pe_notT ha).evi fun σ H Q h => ?_
  obtain ⟨W, σd, z, b, p⟩ := h
  refine one b p fun d v z2 W2 H2 l b2 r p2 => ?_
  obtain ⟨k, e, q⟩ := Post.lift (Post.of_bind p2) b2
  exact ⟨k, tru_of e r, q W2 H2 Le.refl b2 W2 H2 Le.refl b2 _ rfl⟩
theorem tru_bind (c : C) (σd : Sg) (z : Sto) {β : Type} (f : Bool → Sto → Res β) : ((evE Z c σd z).bind fun x z => (lift (truD x) z).bind f) = ((evE Z c σd z).bind fun x z => lift (truD x) z).bind f := by
  cases evE Z c σd z <;> rfl
/-- a test, then what hangs on it -/
theorem testing {β : Type} {c : C} {f : Bool → Sto → Res β} {Qf : β → Sto → Wd → Hp → Prop} {R : Bool → Hp → Prop} (b : BIm K M W σd z σ H)
    (p : Post K M W σd σ H ((evE Z c σd z).bind fun x z => (lift (truD x) z).bind f) Qf)
    (k : ∀ k z2 W2 H2, Le W H W2 H2 → BIm K M W2 σd z2 σ H2 → Post K M W2 σd σ H2 (f k z2) Qf → R k H2) : tB K M Z c σ H R := by
  rw [tru_bind] at p
  exact ⟨W, σd, z, b, (Post.of_bind p).mono fun x z1 W1 H1 l1 b1 p1 => k x z1 W1 H1 l1 b1 p1⟩
theorem sE_ite {X : Cx} {c a b : PySem.Expr} {pos : PySem.Pos} {cc ca cb : C} (h1 : isBor ca = false) (h2 : isBor cb = false) (hc : PT X c (tB X.K M Z cc)) (ha : PE X a (tE X.K M Z ca)) (hb : PE X b (tE X.K M Z cb)) : PE X (.IfExp c a b pos) (tE X.K M Z (.ite cc ca cb)) := by
  refine (pe_ifExp hc ha hb).evi fun σ H Q h => ?_
  obtain ⟨W, σd, z, b, p⟩ := h
  refine testing b p fun k z2 W2 H2 l b2 p2 => ?_
  cases k with
  | true => exact ⟨W2, σd, z2, b2, p2.mono fun d z W' H' _ _ q v r => q v ((Rpx_no rfl).mpr ((Rpx_no h1).mp r))⟩
  | false => exact ⟨W2, σd, z2, b2, p2.mono fun d z W' H' _ _ q v r => q v ((Rpx_no rfl).mpr ((Rpx_no h2).mp r))⟩
theorem sW_and {X : Cx} {a b : PySem.Expr} {rest : List PySem.Expr} {pos : PySem.Pos} {ca cb : C} (ha : PT X a (tB X.K M Z ca)) (hb : PW X (.BoolOp .And (b :: rest) pos) (tB X.K M Z cb)) : PW X (.BoolOp .And (a :: b :: rest) pos) (tB X.K M Z (.and ca cb)) := by
  refine (pw_and ha hb).evi fun σ H Q h => ?_
  obtain ⟨W, σd, z, b, p⟩ := h
  have e : ((evE Z (.and ca cb) σd z).bind fun x z => lift (truD x) z) = ((evE Z ca σd z).bind fun x z => (lift (truD x) z).bind fun k z => match k with
      | true => (evE Z cb σd z).bind fun x z => lift (truD x) z
      | false => .ok false z) := by
    show ((evE Z ca σd z).bind fun x z => (lift (truD x) z).bind fun k z => match k with
      | true => evE Z cb σd z
      | false => Res.ok x z).bind _ = _
    cases evE Z ca σd z with
    | ok x z1 =>
      simp only [Res.bind_ok]
      cases e : truD x with
      | none => rfl
      | some k => cases k <;> simp [e]
    | exn _ _ => rfl
    | err => rfl
  rw [e] at p
  refine testing b p fun k z2 W2 H2 l b2 p2 => ?_
  cases k with
  | true => exact ⟨W2, σd, z2, b2, p2⟩
  | false => exact p2 W2 H2 Le.refl b2
theorem sW_or {X : Cx} {a b : PySem.Expr} {rest : List PySem.Expr} {pos : PySem.Pos} {ca cb : C} (ha : PT X a (tB X.K M Z ca)) (hb : PW X (.BoolOp .Or (b :: rest) pos) (tB X.K M Z cb)) : PW X (.BoolOp .Or (a :: b :: rest) pos) (tB X.K M Z (.or ca cb)) := by
  refine (pw_or ha hb).evi fun σ H Q h => ?_
  obtain ⟨W, σd, z, b, p⟩ := h
  have e : ((evE Z (.or ca cb) σd z).bind fun x z => lift (truD x) z) = ((evE Z ca σd z).bind fun x z => (lift (truD x) z).bind fun k z => match k with
      | true => .ok true z
      | false => (evE Z cb σd z).bind fun x z => lift (truD x) z) := by
    show ((evE Z ca σd z).bind fun x z => (lift (truD x) z).bind fun k z => match k with
      | true => Res.ok x z
      | false => evE Z cb σd z).bind _ = _
    cases evE Z ca σd z with
    | ok x z1 =>
      simp only [Res.bind_ok]
      cases e : truD x with
      | none => rfl
      | some k => cases k <;> simp [e]
    | exn _ _ => rfl
    | err => rfl
  rw [e] at p
  refine testing b p fun k z2 W2 H2 l b2 p2 => ?_
  cases k with
  | false => exact ⟨W2, σd, z2, b2, p2⟩
  | true => exact p2 W2 H2 Le.refl b2
theorem sW_one {X : Cx} {a : PySem.Expr} {op : PySem.BoolOp} {pos : PySem.Pos} {ca : C} (ha : PT X a (tB X.K M Z ca)) : PW X (.BoolOp op [a] pos) (tB X.K M Z (.one ca)) := by
  cases op with
  | And => exact (pw_and1 ha).evi fun σ H Q h => h
  | Or => exact (pw_or1 ha).evi fun σ H Q h => h
theorem sT_not {X : Cx} {a : PySem.Expr} {pos : PySem.Pos} {ca : C} (ha : PT X a (tB X.K M Z ca)) : PT X (.UnaryOp .Not a pos) (tB X.K M Z (.not ca)) := by
  refine (pt_not ha).evi fun σ H Q h => ?_
  obtain ⟨W, σd, z, b, p⟩ := h
  have e : ((evE Z (.not ca) σd z).bind fun x z => lift (truD x) z) = ((evE Z ca σd z).bind fun x z => (lift (truD x) z).bind fun k z => .ok (!k) z) := by
    show ((evE Z ca σd z).bind fun x z => (lift (truD x) z).bind fun k z => Res.ok (D.bl (!k)) z).bind _ = _
    cases evE Z ca σd z with
    | ok x z1 =>
      simp only [Res.bind_ok]
      cases e : truD x with
      | none => rfl
      | some k => rfl
    | exn _ _ => rfl
    | err => rfl
  rw [e] at p
  refine testing b p fun k z2 W2 H2 l b2 p2 => ?_
  exact p2 W2 H2 Le.refl b2
end
end EV

namespace EV
open PySem L2
section
variable {K : PySem.W.Frag} {M : Mx} {Z : Cxt} {W : Wd} {σd : Sg} {z : Sto} {σ : St} {H : Hp}

/-! ### subscripts, slices -/
def noslice : PySem.Expr → Bool
  | .Slice _ _ _ _ => false
  | _ => true
theorem plainIx {b : PySem.Expr} (h : noslice b = true) : PlainIx b := by
  intro o i
  cases b <;> first | rfl | exact nomatch h
theorem Rps.atI {vs : List V} {ds : List D} (h : Rps K W H vs ds) {k : Int} {d : D} (e : L2.atI ds k = some d) : ∃ v, L2.atI vs k = some v ∧ Rp K W H v d := by
  unfold L2.atI at e ⊢
  rw [h.len]
  cases q : ixN ds.length k with
  | none => rw [q] at e; cases e
  | some j =>
    rw [q] at e
    exact h.get e
theorem sE_idx {X : Cx} {a i : PySem.Expr} {pos : PySem.Pos} {ca ci : C} (hs : noslice i = true) (ha : PE X a (tE X.K M Z ca)) (hi : PE X i (tE X.K M Z ci)) : PE X (.Subscript a i pos) (tE X.K M Z (.idx ca ci)) := by
  refine (pe_ix ix_seq ha hi (plainIx hs)).evi fun σ H Q h => ?_
  obtain ⟨W, σd, z, b, p⟩ := h
  refine two b p fun d1 d2 v1 v2 z2 W2 H2 l b2 r1 r2 p2 => ?_
  obtain ⟨d, e, q⟩ := Post.lift p2 b2
  have go : ∀ v, Rp X.K W2 H2 v d → Q v H2 := fun v r => q W2 H2 Le.refl b2 v ((Rpx_no rfl).mpr r)
  cases d2 with
  | int k =>
    cases r2
    cases d1 with
    | tup ds =>
      obtain ⟨a, vs, rfl, q1, r⟩ := r1
      obtain ⟨v, e1, r2⟩ := Rps.atI r e
      exact .inr (.inl ⟨_, _, _, _, rfl, rfl, q1, e1, go v r2⟩)
    | ktp ks =>
      obtain ⟨a, rfl, q1, r⟩ := Rp.ktup (W := W2) r1
      obtain ⟨ky, ek, rfl⟩ := Option.map_eq_some_iff.mp (show (L2.atI ks k).map kyD = some d from e)
      have e : L2.atI (ks.map kyD) k = some (kyD ky) := by
        unfold L2.atI at ek ⊢
        rw [List.length_map]
        cases q : ixN ks.length k with
        | none => rw [q] at ek; cases ek
        | some j =>
          rw [q] at ek
          have ek : ks[j]? = some ky := ek
          show (ks.map kyD)[j]? = _
          rw [List.getElem?_map, ek]; rfl
      obtain ⟨v, e1, r2⟩ := Rps.atI r e
      exact .inr (.inl ⟨_, _, _, _, rfl, rfl, q1, e1, go v r2⟩)
    | lst ds =>
      obtain ⟨a, vs, rfl, f, q1, r⟩ := r1
      obtain ⟨v, e1, r2⟩ := Rps.atI r e
      exact .inl ⟨_, _, _, _, rfl, rfl, SqL.of q1, e1, go v r2⟩
    | str s =>
      obtain ⟨rfl, ok⟩ := r1
      obtain ⟨c, e1, rfl⟩ := Option.map_eq_some_iff.mp e
      refine .inr (.inr ⟨_, _, c, rfl, rfl, by rw [strLen]; exact ok.1, by rw [show (⟨s.toArray⟩ : Str).cps.toList = s by simp]; exact e1, go _ ⟨rfl, by show 1 ≤ lim; decide, fun x hx => ?_⟩⟩)
      have hx : x = c := by simpa using hx
      subst hx
      unfold L2.atI at e1
      cases q : ixN s.length k with
      | none => rw [q] at e1; cases e1
      | some j =>
        rw [q] at e1
        exact ok.2 x (List.mem_of_getElem? e1)
    | loc n =>
      obtain ⟨a, rfl, hL⟩ := r1
      unfold idxD at e
      dsimp only at e
      split at e
      · rename_i ds hc
        obtain ⟨a', ha', vs, q1, r⟩ := b2.sr.cs.get hc
        rw [hL] at ha'; cases ha'
        obtain ⟨v, e1, r2⟩ := Rps.atI r e
        exact .inl ⟨_, _, _, _, rfl, rfl, SqL.of q1, e1, go v r2⟩
      · cases e
    | strm =>
      obtain ⟨a, rfl, hs⟩ := r1
      have st := b2.sr.st
      unfold idxD at e
      cases hz : z2.st with
      | none => rw [hz] at e; cases e
      | some t =>
        obtain ⟨xs, c, n⟩ := t
        rw [hz] at e st
        obtain ⟨a', v, h1, h2, h3⟩ := st
        rw [hs] at h1; cases h1
        dsimp only at e
        split at e
        · rename_i hk
          cases e; subst hk
          exact .inl ⟨_, _, _, v, rfl, rfl, SqL.of h2, rfl, go v h3⟩
        · split at e
          · rename_i hk
            cases e; subst hk
            exact .inl ⟨_, _, _, .int c, rfl, rfl, SqL.of h2, rfl, go _ rfl⟩
          · split at e
            · rename_i hk
              cases e; subst hk
              exact .inl ⟨_, _, _, .int n, rfl, rfl, SqL.of h2, rfl, go _ rfl⟩
            · cases e
    | _ => cases e
  | _ => cases d1 <;> cases e
theorem Rps.cut {vs : List V} {ds : List D} (h : Rps K W H vs ds) (lo hi : Option Int) : Rps K W H (cutV vs lo hi) (cut ds lo hi) := by
  unfold cutV EV.cut
  rw [h.len]
  exact Rps.take _ (Rps.drop _ h)
def rSlW (K : PySem.W.Frag) : V → Option Int → Option Int → Hp → VK → Prop := fun x lo hi H Q => (rSlL K x lo hi H Q ∨ rSlA K x lo hi H Q) ∨ rSlS x lo hi H Q
theorem sl_any {X : Cx} : SlR X (rSlW X.K) := SlR.or (SlR.or sl_list sl_tupA) sl_str
theorem slc_ok {d1 : D} {v1 : V} {lo hi : Option Int} {H1 : Hp} {Q : VK} (h12 : ∀ a, H a = none → H1 a = none) (b : BIm K M W σd z σ H) (r : RpO K W σd σ H v1 d1) {d : D} (e : slcD d1 lo hi = some d)
    (q : ∀ W' H', Le W H W' H' → BIm K M W' σd z σ H' → ∀ v, RpN K H1 W' H' v d → Q v H') : rSlW K v1 lo hi H Q := by
  cases d1 with
  | str s =>
    obtain ⟨rfl, ok⟩ := r
    cases e
    refine .inr ⟨_, rfl, by rw [strLen]; exact ok.1, ?_⟩
    have hc : cutS ⟨s.toArray⟩ lo hi = ⟨(cut s lo hi).toArray⟩ := by
      unfold cutS EV.cut
      rw [strLen]
    rw [hc]
    refine q W H Le.refl b _ ⟨rfl, ?_, fun c hc => ok.2 c ?_⟩
    · have : (cut s lo hi).length ≤ s.length := by
        unfold EV.cut
        rw [List.length_take, List.length_drop]; omega
      exact Nat.le_trans this ok.1
    · unfold EV.cut at hc
      exact List.mem_of_mem_drop (List.mem_of_mem_take hc)
  | lst ds =>
    obtain ⟨a, vs, rfl, f, q1, r⟩ := r
    cases e
    exact .inl (.inl ⟨a, vs, rfl, SqL.of q1, fun p hp => new_list (W0 := W) h12 b (Rps.cut r lo hi) q hp⟩)
  | tup ds =>
    obtain ⟨a, vs, rfl, q1, r⟩ := r
    cases e
    refine .inl (.inr ⟨a, vs, rfl, q1, fun h0 => ?_, fun _ p hp => ?_⟩)
    · rw [r.len] at h0
      refine q W H Le.refl b _ ⟨a, vs, rfl, q1, ?_⟩
      have e : EV.cut ds lo hi = ds := by
        unfold EV.cut
        rw [h0.1, h0.2, List.drop_zero, Nat.sub_zero, List.take_length]
      rw [e]; exact r
    · exact new_tup b (Rps.cut r lo hi) (fun W' H' l b' v r => q W' H' l b' v r) hp
  | ktp ks =>
    cases e
    have hk : ∃ a, v1 = .ref a ∧ H a = some (.tup ((ks.map kyK).map kV)) ∧ ∀ k ∈ ks, KyOk k := r
    obtain ⟨a, rfl, q1, ok⟩ := hk
    have ok' : ∀ k ∈ EV.cut ks lo hi, KyOk k := fun k hk => ok k (by
      unfold EV.cut at hk
      exact List.mem_of_mem_drop (List.mem_of_mem_take hk))
    have ec : cutV ((ks.map kyK).map kV) lo hi = ((EV.cut ks lo hi).map kyK).map kV := by
      unfold cutV EV.cut
      simp [List.map_take, List.map_drop]
    refine .inl (.inr ⟨a, _, rfl, .inl (.inl q1), fun h0 => ?_, fun _ p hp => ?_⟩)
    · refine q W H Le.refl b _ ⟨a, rfl, ?_, ok'⟩
      have e : EV.cut ks lo hi = ks := by
        unfold EV.cut
        simp only [List.length_map] at h0
        rw [h0.1, h0.2, List.drop_zero, Nat.sub_zero, List.take_length]
      rw [e]; exact q1
    · have sm : Same H (upd H p (.tup (cutV ((ks.map kyK).map kV) lo hi))) := Same.new hp
      refine q W _ (Le.same sm) (BI.same b sm) _ ⟨p, rfl, ?_, ok'⟩
      rw [upd_same, ec]
  | _ => cases e
theorem sN_slc {X : Cx} {a lo hi : PySem.Expr} {p1 pos : PySem.Pos} {ca cl ch : C} (ha : PE X a (tE X.K M Z ca)) (hl : PE X lo (tE X.K M Z cl)) (hh : PE X hi (tE X.K M Z ch)) : PE X (.Subscript a (.Slice (some lo) (some hi) none p1) pos) (tN X.K M Z (.slc ca cl ch)) := by
  refine (pe_slice sl_any ha (po_some hl) (po_some hh)).evi fun σ H Q h => ?_
  obtain ⟨W, σd, z, b, p⟩ := h
  refine one b p fun d1 v1 z2 W2 H2 l b2 r1 p2 => ?_
  refine one b2 p2 fun d2 v2 z3 W3 H3 l3 b3 r2 p3 => ?_
  obtain ⟨i, e, q⟩ := Post.lift (Post.of_bind p3) b3
  have r1 := RpO.le b2 l3 r1
  cases d2 <;> cases e
  cases r2
  refine ⟨_, rfl, one b3 (q W3 H3 Le.refl b3) fun d4 v4 z4 W4 H4 l4 b4 r4 p4 => ?_⟩
  obtain ⟨j, e4, q4⟩ := Post.lift (Post.of_bind p4) b4
  have r1 := RpO.le b3 l4 r1
  cases d4 <;> cases e4
  cases r4
  obtain ⟨d, e5, q5⟩ := Post.lift (q4 W4 H4 Le.refl b4) b4
  exact ⟨_, rfl, slc_ok (fun a h => (l.trans (l3.trans l4)).none_of h) b4 r1 e5 q5⟩
theorem sN_slcL {X : Cx} {a lo : PySem.Expr} {p1 pos : PySem.Pos} {ca cl : C} (ha : PE X a (tE X.K M Z ca)) (hl : PE X lo (tE X.K M Z cl)) : PE X (.Subscript a (.Slice (some lo) none none p1) pos) (tN X.K M Z (.slcL ca cl)) := by
  refine (pe_slice sl_any ha (po_some hl) po_none).evi fun σ H Q h => ?_
  obtain ⟨W, σd, z, b, p⟩ := h
  refine one b p fun d1 v1 z2 W2 H2 l b2 r1 p2 => ?_
  refine one b2 p2 fun d2 v2 z3 W3 H3 l3 b3 r2 p3 => ?_
  obtain ⟨i, e, q⟩ := Post.lift (Post.of_bind p3) b3
  have r1 := RpO.le b2 l3 r1
  cases d2 <;> cases e
  cases r2
  obtain ⟨d, e5, q5⟩ := Post.lift (q W3 H3 Le.refl b3) b3
  exact ⟨_, rfl, slc_ok (fun a h => (l.trans l3).none_of h) b3 r1 e5 q5⟩
theorem sN_slcH {X : Cx} {a lo : PySem.Expr} {p1 pos : PySem.Pos} {ca cl : C} (ha : PE X a (tE X.K M Z ca)) (hl : PE X lo (tE X.K M Z cl)) : PE X (.Subscript a (.Slice none (some lo) none p1) pos) (tN X.K M Z (.slcH ca cl)) := by
  refine (pe_slice sl_any ha po_none (po_some hl)).evi fun σ H Q h => ?_
  obtain ⟨W, σd, z, b, p⟩ := h
  refine one b p fun d1 v1 z2 W2 H2 l b2 r1 p2 => ?_
  refine one b2 p2 fun d2 v2 z3 W3 H3 l3 b3 r2 p3 => ?_
  obtain ⟨i, e, q⟩ := Post.lift (Post.of_bind p3) b3
  have r1 := RpO.le b2 l3 r1
  cases d2 <;> cases e
  cases r2
  obtain ⟨d, e5, q5⟩ := Post.lift (q W3 H3 Le.refl b3) b3
  exact ⟨_, rfl, slc_ok (fun a h => (l.trans l3).none_of h) b3 r1 e5 q5⟩

/-! ### displays -/
def lenC : Cs → Nat
  | .nil => 0
  | .cons _ es => lenC es + 1
theorem evEs_len : ∀ {es : Cs} {σd : Sg} {z z' : Sto} {ds : List D}, evEs Z es σd z = .ok ds z' → ds.length = lenC es
  | .nil, σd, z, z', ds, h => by
    cases (show Res.ok [] z = Res.ok ds z' from h)
    rfl
  | .cons e es, σd, z, z', ds, h => by
    have h : ((evE Z e σd z).bind fun d z => (evEs Z es σd z).bind fun ds z => .ok (d :: ds) z) = .ok ds z' := h
    cases q : evE Z e σd z with
    | ok d z1 =>
      rw [q] at h
      cases q2 : evEs Z es σd z1 with
      | ok ds2 z2 =>
        simp only [Res.bind_ok, q2] at h
        cases h
        rw [List.length_cons, evEs_len q2]
        rfl
      | exn _ _ => simp [q2] at h
      | err => simp [q2] at h
    | exn _ _ => rw [q] at h; cases h
    | err => rw [q] at h; cases h
theorem sE_tup {X : Cx} {es : List PySem.Expr} {k : Nat} {pos : PySem.Pos} {cs : Cs} (hb : hasBor cs = false) (hl : lenC cs ≤ lim) (h : PA X es (tEs X.K M Z cs)) : PE X (.Tuple es k pos) (tE X.K M Z (.tup cs)) := by
  refine (pe_tup h).evi fun σ H Q h => ?_
  obtain ⟨W, σd, z, b, p⟩ := h
  refine ⟨W, σd, z, b, ?_⟩
  have p := Post.of_bind p
  cases e : evEs Z cs σd z with
  | exn _ _ => rw [e] at p; exact p
  | err => rw [e] at p; exact p
  | ok ds z1 =>
    rw [e] at p
    intro W1 H1 l1 b1 vs r
    have r := (Rpsx_no hb).mp r
    refine ⟨by rw [r.len, evEs_len e]; exact hl, fun p' hp => ?_⟩
    exact new_tup b1 r (fun W' H' l b' v r => p W1 H1 l1 b1 W' H' l b' v ((Rpx_no rfl).mpr r)) hp
theorem sN_lst {X : Cx} {es : List PySem.Expr} {pos : PySem.Pos} {cs : Cs} (hb : hasBor cs = false) (hl : lenC cs ≤ lim) (h : PA X es (tEs X.K M Z cs)) : PE X (.List es pos) (tN X.K M Z (.lst cs)) := by
  refine (pe_lst h).evi fun σ H Q h => ?_
  obtain ⟨W, σd, z, b, p⟩ := h
  refine ⟨W, σd, z, b, ?_⟩
  have p := Post.of_bind p
  cases e : evEs Z cs σd z with
  | exn _ _ => rw [e] at p; exact p
  | err => rw [e] at p; exact p
  | ok ds z1 =>
    rw [e] at p
    intro W1 H1 l1 b1 vs r
    have r := (Rpsx_no hb).mp r
    refine ⟨by rw [r.len, evEs_len e]; exact hl, fun p' hp => ?_⟩
    exact new_list (W0 := W) (fun a h => l1.none_of h) b1 r (p W1 H1 l1 b1) hp
/-- the stream is laid -/
theorem sE_strm {X : Cx} {a : PySem.Expr} {j1 j2 : Nat} {p1 p2 pos : PySem.Pos} {ca : C} (hs : nostar a = true) (hb : isBor ca = false) (ha : PE X a (tE X.K M Z ca)) :
    PE X (.List [a, .Constant (.int 0) j1 p1, .Constant (.int 0) j2 p2] pos) (tE X.K M Z (.strm ca)) := by
  refine (pe_lst (pa_cons ha (pa_cons pe_int (pa_cons pe_int pa_nil)) (star_no hs _ _))).evi fun σ H Q h => ?_
  obtain ⟨W, σd, z, b, p⟩ := h
  refine ⟨W, σd, z, b, (Post.of_bind p).mono fun d z1 W1 H1 l1 b1 p1 v r => ?_⟩
  have r := (Rpx_no hb).mp r
  refine ⟨by show 3 ≤ sizeLine; decide, fun q hq => ?_⟩
  have st := b1.sr.st
  cases d with
  | lst ds =>
    cases hz : z1.st with
    | some t => rw [hz] at p1; exact p1.elim
    | none =>
      rw [hz] at p1 st
      have st : W1.s = none := st
      cases hx : intsOf ds with
      | none => simp only [hx] at p1; exact p1.elim
      | some xs =>
        simp only [hx] at p1
        have sm : Same H1 (upd H1 q (.lst [v, .int 0, .int 0])) := Same.new hq
        have hd : ds = xs.map D.int := by
          have go : ∀ (ds : List D) (xs : List Int), intsOf ds = some xs → ds = xs.map D.int := fun ds => by
            induction ds with
            | nil => intro xs h; cases h; rfl
            | cons d ds ih =>
              intro xs h
              cases d with
              | int i =>
                obtain ⟨ys, h1, rfl⟩ := Option.map_eq_some_iff.mp (show (intsOf ds).map (i :: ·) = some xs from h)
                rw [List.map_cons, ← ih ys h1]
              | _ => cases h
          exact go ds xs hx
        subst hd
        let W2 : Wd := { W1 with s := some q }
        have m : Mo W1 H1 W2 (upd H1 q (.lst [v, .int 0, .int 0])) := ⟨fun _ h => h, fun a o _ e => sm a o e, fun a xs e => sm a _ e, fun a o u e => sm a _ e, ⟨[], by simp [W2]⟩, fun a e => (by rw [st] at e; cases e), rfl⟩
        have le : Le W1 H1 W2 (upd H1 q (.lst [v, .int 0, .int 0])) := ⟨m, fun _ h => .inl h, fun _ h => .inl h, fun a e => .inr (by cases e; exact hq), fun a o e _ _ => sm a o e, fun a o e => ⟨o, sm a o e⟩⟩
        refine p1 W2 _ le (b1.step le ⟨⟨fun a f => ?_, fun a f e => ?_, b1.sr.ok.fl, fun a hm => ?_, fun a e hm => ?_, b1.sr.ok.nd⟩, CsR.mo m (fun a hm => let ⟨o, e⟩ := b1.sr.ok.ll a hm; by rw [e]; exact sm a o e) b1.sr.cs, q, v, rfl, upd_same, Rp.mo m _ _ r⟩) _ ((Rpx_no rfl).mpr ⟨q, rfl, rfl⟩)
        · obtain ⟨o, e⟩ := b1.sr.ok.ft a f
          exact ⟨o, sm a o e⟩
        · cases e
          obtain ⟨o, e⟩ := b1.sr.ok.ft q f
          rw [hq] at e; cases e
        · obtain ⟨o, e⟩ := b1.sr.ok.ll a hm
          exact ⟨o, sm a o e⟩
        · cases e
          obtain ⟨o, e⟩ := b1.sr.ok.ll q hm
          rw [hq] at e; cases e
  | _ => exact p1.elim

/-! ### isinstance -/
def tyName : Ty → String
  | .int => "int"
  | .bool => "bool"
  | .str => "str"
  | .tuple => "tuple"
  | .list => "list"
theorem sqt_ty {a : Addr} {vs : List V} (h : SqT K H a vs) : TyX K H (.ref a) (.type "tuple") := by
  rcases h with (h | ⟨o, h⟩) | ⟨o, its, n, h1, h2, _⟩
  · exact .base (.tup h)
  · exact .fTuple h
  · exact .kTuple h1 h2
theorem isi_ok {t : Ty} {d : D} {v : V} {k : Bool} (e : isiD t d = some k) (r : RpO K W σd σ H v d) : ∃ tv, TyX K H v tv ∧ PySem.W.kitOne K tv (.type (tyName t)) = some k := by
  cases d with
  | non => cases e; cases r; exact ⟨_, .base .non, kit_ty (by cases t <;> decide +kernel)⟩
  | bl b => cases e; cases r; exact ⟨_, .base (.bl b), kit_ty (by cases t <;> decide +kernel)⟩
  | int b => cases e; cases r; exact ⟨_, .base (.int b), kit_ty (by cases t <;> decide +kernel)⟩
  | str s => cases e; obtain ⟨rfl, _⟩ := r; exact ⟨_, .base (.str _), kit_ty (by cases t <;> decide +kernel)⟩
  | tup ds => cases e; obtain ⟨a, vs, rfl, q, _⟩ := r; exact ⟨_, sqt_ty q, kit_ty (by cases t <;> decide +kernel)⟩
  | lst ds => cases e; obtain ⟨a, vs, rfl, f, q, _⟩ := r; exact ⟨_, .base (.lst q), kit_ty (by cases t <;> decide +kernel)⟩
  | ktp ks => cases e; obtain ⟨a, rfl, q, _⟩ := Rp.ktup (W := W) r; exact ⟨_, sqt_ty q, kit_ty (by cases t <;> decide +kernel)⟩
  | _ => cases e
theorem sE_isi {X : Cx} {a : PySem.Expr} {x : Str} {p p2 pos : PySem.Pos} {t : Ty} {ca : C} (hs : nostar a = true) (hg : Gl X "isinstance") (hm : X.mg "isinstance" = none) (hgx : Gl X x) (hmx : X.mg x = none) (hx : x = Str.ofString (tyName t)) (ha : PE X a (tE X.K M Z ca)) :
    PE X (.Call (.Name "isinstance" p) [a, .Name x p2] [] pos) (tE X.K M Z (.isi t ca)) := by
  subst hx
  have hb : PE X (.Name (Str.ofString (tyName t)) p2) (tC (.ty (tyName t))) := by
    refine pe_bltn (u := .type (tyName t)) hgx hmx (by cases t <;> decide +kernel) rfl (by cases t <;> decide +kernel) (by cases t <;> decide +kernel)
  refine (pe_callB call_isi hg hm (by decide +kernel) (pa_cons ha (pa_cons hb pa_nil) (star_no hs _ _)) (by decide +kernel) (by decide +kernel) (star_no hs _ _) (by rfl)).evi fun σ H Q h => ?_
  obtain ⟨W, σd, z, b, p⟩ := h
  refine one b p fun d v z2 W2 H2 l b2 r p2 => ?_
  obtain ⟨k, e, q⟩ := Post.lift (Post.of_bind p2) b2
  obtain ⟨tv, h1, h2⟩ := isi_ok e r
  exact ⟨v, _, tv, _, k, rfl, .ty _, h1, h2, q W2 H2 Le.refl b2 W2 H2 Le.refl b2 _ ((Rpx_no rfl).mpr rfl)⟩
end
end EV

namespace EV
open PySem L2
section
variable {K : PySem.W.Frag} {M : Mx} {Z : Cxt} {W : Wd} {σd : Sg} {z : Sto} {σ : St} {H : Hp}
theorem ints_vs : ∀ {ds : List D} {vs : List V} {l : List Int}, intsOf ds = some l → Rps K W H vs ds → vs = l.map V.int
  | [], [], l, h, _ => by cases h; rfl
  | d :: ds, v :: vs, l, h, r => by
    cases d with
    | int i =>
      obtain ⟨ys, h1, rfl⟩ := Option.map_eq_some_iff.mp (show (intsOf ds).map (i :: ·) = some l from h)
      rw [ints_vs h1 r.2, List.map_cons, (show v = .int i from r.1)]
    | _ => cases h
  | [], _ :: _, _, _, r => r.elim
  | _ :: _, [], _, _, r => r.elim
theorem bools_vs : ∀ {ds : List D} {vs : List V} {l : List Bool}, boolsOf ds = some l → Rps K W H vs ds → vs = l.map V.bl
  | [], [], l, h, _ => by cases h; rfl
  | d :: ds, v :: vs, l, h, r => by
    cases d with
    | bl i =>
      obtain ⟨ys, h1, rfl⟩ := Option.map_eq_some_iff.mp (show (boolsOf ds).map (i :: ·) = some l from h)
      rw [bools_vs h1 r.2, List.map_cons, (show v = .bl i from r.1)]
    | _ => cases h
  | [], _ :: _, _, _, r => r.elim
  | _ :: _, [], _, _, r => r.elim
/-! ### built-in functions and types -/
def biName : Bi → String
  | .len => "len"
  | .abs => "abs"
  | .int => "int"
  | .gcd => "gcd"
  | .list => "list"
  | .tuple => "tuple"
  | .sum => "sum"
  | .all => "all"
  | .any => "any"
  | .max2 => "max"
def rBi (K : PySem.W.Frag) : Bi → List V → Hp → VK → Prop
  | .len => fun xs H Q => ∃ x n, xs = [x] ∧ LenV K x H n ∧ Q (.int n) H
  | .abs => fun xs H Q => ∃ i, xs = [.int i] ∧ Q (.int (if i < 0 then -i else i)) H
  | .int => fun xs H Q => (∃ i, xs = [.int i] ∧ Q (.int i) H) ∨ ∃ k, xs = [.bl k] ∧ Q (.int (if k then 1 else 0)) H
  | .gcd => rGcd
  | .list => fun xs H Q => ∃ p ys, xs = [.ref p] ∧ (SqL K H p ys ∨ SqT K H p ys) ∧ ∀ l, H l = none → Q (.ref l) (upd H l (.lst ys))
  | .tuple => fun xs H Q => ∃ p ys, xs = [.ref p] ∧ ((SqL K H p ys ∧ ∀ l, H l = none → Q (.ref l) (upd H l (.tup ys))) ∨ (SqT K H p ys ∧ Q (.ref p) H))
  | .sum => rSum K
  | .all => rAll K
  | .any => rAny K
  | .max2 => fun xs H Q => ∃ i j, xs = [.int i, .int j] ∧ Q (.int (if j > i then j else i)) H
theorem one_arg {ds : List D} {vs : List V} {d : D} (e : ds = [d]) (r : RpsO K W σd σ H vs ds) : ∃ v, vs = [v] ∧ RpO K W σd σ H v d := by
  subst e
  cases vs with
  | nil => exact r.elim
  | cons v vs => cases vs with
    | nil => exact ⟨v, rfl, r.1⟩
    | cons _ _ => exact r.2.elim
theorem two_args {ds : List D} {vs : List V} {d e : D} (q : ds = [d, e]) (r : RpsO K W σd σ H vs ds) : ∃ v w, vs = [v, w] ∧ RpO K W σd σ H v d ∧ RpO K W σd σ H w e := by
  subst q
  cases vs with
  | nil => exact r.elim
  | cons v vs => cases vs with
    | nil => exact r.2.elim
    | cons w vs => cases vs with
      | nil => exact ⟨v, w, rfl, r.1, r.2.1⟩
      | cons _ _ => exact r.2.2.elim
theorem bi_ok {b : Bi} {ds : List D} {d : D} {vs : List V} {H1 : Hp} {Q : VK} (h12 : ∀ a, H a = none → H1 a = none) (bi : BIm K M W σd z σ H) (r : RpsO K W σd σ H vs ds) (e : biD b ds = some d)
    (q : ∀ W' H', Le W H W' H' → BIm K M W' σd z σ H' → ∀ v, RpN K H1 W' H' v d → Q v H') : rBi K b vs H Q := by
  have go : ∀ v, (∀ ds, d ≠ .lst ds) → Rp K W H v d → Q v H := fun v hn r => q W H Le.refl bi v (by
    cases d with
    | lst ds => exact absurd rfl (hn ds)
    | _ => exact r)
  unfold biD at e
  split at e
  · rename_i a
    obtain ⟨v, rfl, r0⟩ := one_arg rfl r
    obtain ⟨n, e1, rfl⟩ := Option.map_eq_some_iff.mp e
    refine ⟨v, n, rfl, ?_, go _ (fun _ z => nomatch z) rfl⟩
    cases a with
    | str s =>
      obtain ⟨rfl, ok⟩ := r0
      cases e1
      exact ⟨by rw [strLen]; exact ok.1, (strLen s).symm⟩
    | tup ds =>
      obtain ⟨a, vs, rfl, q1, r9⟩ := r0
      cases e1
      exact .inr ⟨vs, q1, r9.len.symm⟩
    | lst ds =>
      obtain ⟨a, vs, rfl, f, q1, r9⟩ := r0
      cases e1
      exact .inl ⟨vs, SqL.of q1, r9.len.symm⟩
    | ktp ks =>
      obtain ⟨a, rfl, q1, r9⟩ := Rp.ktup (W := W) r0
      cases e1
      exact .inr ⟨_, q1, by simp⟩
    | _ => cases e1
  · obtain ⟨v, rfl, r0⟩ := one_arg rfl r
    cases e; cases r0
    exact ⟨_, rfl, go _ (fun _ z => nomatch z) rfl⟩
  · obtain ⟨v, rfl, r0⟩ := one_arg rfl r
    cases e; cases r0
    exact .inl ⟨_, rfl, go _ (fun _ z => nomatch z) rfl⟩
  · obtain ⟨v, rfl, r0⟩ := one_arg rfl r
    cases e; cases r0
    exact .inr ⟨_, rfl, go _ (fun _ z => nomatch z) rfl⟩
  · obtain ⟨v, w, rfl, r1, r2⟩ := two_args rfl r
    cases e; cases r1; cases r2
    exact ⟨_, _, rfl, go _ (fun _ z => nomatch z) rfl⟩
  · obtain ⟨v, rfl, r0⟩ := one_arg rfl r
    cases e
    obtain ⟨a, vs, rfl, f, q1, r9⟩ := r0
    exact ⟨a, vs, rfl, .inl (SqL.of q1), fun p hp => new_list (W0 := W) h12 bi r9 q hp⟩
  · obtain ⟨v, rfl, r0⟩ := one_arg rfl r
    cases e
    obtain ⟨a, vs, rfl, q1, r9⟩ := r0
    exact ⟨a, vs, rfl, .inr q1, fun p hp => new_list (W0 := W) h12 bi r9 q hp⟩
  · obtain ⟨v, rfl, r0⟩ := one_arg rfl r
    cases e
    obtain ⟨a, rfl, q1⟩ := Rp.ext (K := K) (W := W) (H := H) r0
    exact ⟨a, _, rfl, .inl q1, fun p hp => new_list (W0 := W) h12 bi (Rps.ints _) q hp⟩
  · obtain ⟨v, rfl, r0⟩ := one_arg rfl r
    cases e
    obtain ⟨a, vs, rfl, f, q1, r9⟩ := r0
    exact ⟨a, vs, rfl, .inl ⟨SqL.of q1, fun p hp => new_tup bi r9 (fun W' H' l b' v r => q W' H' l b' v r) hp⟩⟩
  · obtain ⟨v, rfl, r0⟩ := one_arg rfl r
    cases e
    obtain ⟨a, vs, rfl, q1, r9⟩ := r0
    exact ⟨a, vs, rfl, .inr ⟨q1, go _ (fun _ z => nomatch z) ⟨a, vs, rfl, q1, r9⟩⟩⟩
  · obtain ⟨v, rfl, r0⟩ := one_arg rfl r
    obtain ⟨l, e1, rfl⟩ := Option.map_eq_some_iff.mp e
    obtain ⟨a, vs, rfl, f, q1, r9⟩ := r0
    have := ints_vs e1 r9
    subst this
    exact ⟨a, l, rfl, SqL.of q1, go _ (fun _ z => nomatch z) rfl⟩
  · obtain ⟨v, rfl, r0⟩ := one_arg rfl r
    obtain ⟨l, e1, rfl⟩ := Option.map_eq_some_iff.mp e
    obtain ⟨a, vs, rfl, f, q1, r9⟩ := r0
    have := bools_vs e1 r9
    subst this
    exact ⟨a, l, rfl, SqL.of q1, go _ (fun _ z => nomatch z) rfl⟩
  · obtain ⟨v, rfl, r0⟩ := one_arg rfl r
    obtain ⟨l, e1, rfl⟩ := Option.map_eq_some_iff.mp e
    obtain ⟨a, vs, rfl, f, q1, r9⟩ := r0
    have := bools_vs e1 r9
    subst this
    exact ⟨a, l, rfl, SqL.of q1, go _ (fun _ z => nomatch z) rfl⟩
  · obtain ⟨v, w, rfl, r1, r2⟩ := two_args rfl r
    cases e; cases r1; cases r2
    exact ⟨_, _, rfl, go _ (fun _ z => nomatch z) rfl⟩
  · cases e
def isTy : Bi → Bool
  | .int | .list | .tuple => true
  | _ => false
def biId : Bi → String
  | .gcd => "math.gcd"
  | b => biName b
/-- what the module's name of a built-in is -/
def biMg : Bi → Option Value
  | .gcd => some (.builtin "math.gcd")
  | _ => none
theorem bi_rule {X : Cx} (hc : X.calm = true) : ∀ b : Bi, if isTy b then CallR X (.type (biId b)) (rBi X.K b) else CallR X (.builtin (biId b)) (rBi X.K b)
  | .len => call_len
  | .abs => call_abs
  | .int => call_int1
  | .gcd => cr_gcd
  | .list => call_list_of
  | .tuple => call_tuple_of
  | .sum => cr_sum hc
  | .all => cr_all hc
  | .any => cr_any hc
  | .max2 => call_max2 hc
theorem plain_args : ∀ {es : List PySem.Expr}, (∀ e ∈ es, nostar e = true) → ∀ (pos : PySem.Pos) (env : PySem.Env), (backTo pos (starEach es env)).any (·.1) = false
  | [], _, _, _ => rfl
  | e :: es, h, pos, env => by
    rw [star_no (h e List.mem_cons_self)]
    show (false || (backTo pos (starEach es env)).any (·.1)) = false
    rw [Bool.false_or]
    exact plain_args (fun e' he => h e' (List.mem_cons_of_mem _ he)) pos env
theorem pe_bi {X : Cx} (hc : X.calm = true) (b : Bi) {p pos : PySem.Pos} {e : PySem.Expr} {es : List PySem.Expr} {t : TA} (hs : ∀ e' ∈ e :: es, nostar e' = true) (hg : Gl X (Str.ofString (biName b))) (hm : X.mg (Str.ofString (biName b)) = biMg b) (ha : PA X (e :: es) t) :
    PE X (.Call (.Name (Str.ofString (biName b)) p) (e :: es) [] pos) (tCB (rBi X.K b) t) := by
  have h1 : starEach (e :: es) X.env = (false, eval e X.env) :: starEach es X.env := star_no (hs e List.mem_cons_self) _ _
  have h2 : (backTo pos (starEach es X.env)).any (·.1) = false := plain_args (fun e' he => hs e' (List.mem_cons_of_mem _ he)) pos X.env
  have h3 := bi_rule hc b
  cases b with
  | gcd => exact pe_callBfun h3 hg hm ha (by decide +kernel) h1 h2
  | int => exact pe_callTy h3 hg hm (by decide +kernel) ha (by decide +kernel) (by decide +kernel) h1 h2
  | list => exact pe_callTy h3 hg hm (by decide +kernel) ha (by decide +kernel) (by decide +kernel) h1 h2
  | tuple => exact pe_callTy h3 hg hm (by decide +kernel) ha (by decide +kernel) (by decide +kernel) h1 h2
  | _ => exact pe_callB h3 hg hm (by decide +kernel) ha (by decide +kernel) (by decide +kernel) h1 h2
theorem sN_bi {X : Cx} (hc : X.calm = true) (b : Bi) {p pos : PySem.Pos} {e : PySem.Expr} {es : List PySem.Expr} {cs : Cs} (hs : ∀ e' ∈ e :: es, nostar e' = true) (hg : Gl X (Str.ofString (biName b))) (hm : X.mg (Str.ofString (biName b)) = biMg b) (ha : PA X (e :: es) (tEs X.K M Z cs)) :
    PE X (.Call (.Name (Str.ofString (biName b)) p) (e :: es) [] pos) (tN X.K M Z (.bi b cs)) := by
  refine (pe_bi hc b hs hg hm ha).evi fun σ H Q h => ?_
  obtain ⟨W, σd, z, bi, p⟩ := h
  refine ⟨W, σd, z, bi, (Post.of_bind p).mono fun ds z1 W1 H1 l1 b1 p1 vs r => ?_⟩
  obtain ⟨d, e, q⟩ := Post.lift p1 b1
  exact bi_ok (fun a h => l1.none_of h) b1 (Rpsx.op r) e q
end
end EV

namespace EV
open PySem L2

/-- what a context says of names: N the def's names by slot, sc the written scope -/
structure Good (X : Cx) (N : List Str) (sc : PySem.Scope) : Prop where
  hN : X.N = N
  nd : N.Nodup
  calm : X.calm = true
  lc : ∀ x, sc.names.lookup x = some .local → X.env.scope.names.lookup x = some .local
  ce : ∀ x, sc.names.lookup x = some .cell → X.env.scope.names.lookup x = some .cell ∧ X.fn x = true
  fr : ∀ x, sc.names.lookup x = some .free → X.env.scope.names.lookup x = some .free ∨ X.env.scope.names.lookup x = some .cell
  gl : ∀ x, sc.names.lookup x = some .globalImplicit → X.env.scope.names.lookup x = some .globalImplicit
  hu : X.A.units + 70 < cLine
def visB (sc : PySem.Scope) (x : Str) : Bool := match sc.names.lookup x with
  | some .local | some .cell | some .free => true
  | _ => false
def locB (sc : PySem.Scope) (x : Str) : Bool := match sc.names.lookup x with
  | some .local | some .cell => true
  | _ => false
def gloB (sc : PySem.Scope) (x : Str) : Bool := match sc.names.lookup x with
  | some .globalImplicit => true
  | _ => false
section
variable {X : Cx} {N : List Str} {sc : PySem.Scope}
theorem Good.vis (G : Good X N sc) {x : Str} (h : visB sc x = true) : Vis X.env.scope x := by
  unfold visB at h
  split at h
  · rename_i e; exact .inl (G.lc x e)
  · rename_i e; exact .inr (.inl (G.ce x e).1)
  · rename_i e
    rcases G.fr x e with k | k
    · exact .inr (.inr k)
    · exact .inr (.inl k)
  · cases h
theorem Good.loc (G : Good X N sc) {x : Str} (h : locB sc x = true) : Loc X.env.scope x ∧ (X.fn x = true ∨ X.env.scope.names.lookup x = some .local) := by
  unfold locB at h
  split at h
  · rename_i e; exact ⟨.inl (G.lc x e), .inr (G.lc x e)⟩
  · rename_i e; exact ⟨.inr (G.ce x e).1, .inl (G.ce x e).2⟩
  · cases h
theorem Good.glob (G : Good X N sc) {x : Str} (h : gloB sc x = true) : Gl X x := by
  unfold gloB at h
  split at h
  · rename_i e; exact G.gl x e
  · cases h
end
section
variable {K : PySem.W.Frag} {M : Mx} {Z : Cxt} {W : Wd} {σd : Sg} {z : Sto} {σ : St} {H : Hp}
theorem BI.set (b : BIm K M W σd z σ H) {i : Nat} {v : V} {d : D} (r : Rp K W H v d) : BIm K M W (σd.set i (some (.val d))) z (σ.set i (some v)) H := by
  refine ⟨by rw [List.length_set, List.length_set]; exact b.len, fun j sd w h1 h2 => ?_, fun j k a ds es h1 h2 h3 h4 => ?_, b.sr, b.le⟩
  · by_cases e : i = j
    · subst e
      by_cases hi : i < σd.length
      · rw [List.getElem?_set_self hi] at h1
        rw [List.getElem?_set_self (by rw [← b.len]; exact hi)] at h2
        cases h1; cases h2
        exact ⟨v, rfl, r⟩
      · rw [List.getElem?_eq_none (by simpa using hi)] at h1; cases h1
    · rw [List.getElem?_set_ne e] at h1 h2
      exact b.sl j sd w h1 h2
  · have nj : i ≠ j := fun e => by
      subst e
      by_cases hi : i < σd.length
      · rw [List.getElem?_set_self hi] at h1; cases h1
      · rw [List.getElem?_eq_none (by simpa using hi)] at h1; cases h1
    have nk : i ≠ k := fun e => by
      subst e
      by_cases hi : i < σd.length
      · rw [List.getElem?_set_self hi] at h2; cases h2
      · rw [List.getElem?_eq_none (by simpa using hi)] at h2; cases h2
    rw [List.getElem?_set_ne nj] at h1 h3
    rw [List.getElem?_set_ne nk] at h2 h4
    exact b.ap j k a ds es h1 h2 h3 h4

theorem OwnA.set {i : Nat} {v : V} {d : D} (a : Addr) (h : OwnA (σd.set i (some (.val d))) (σ.set i (some v)) a) : OwnA σd σ a := by
  obtain ⟨j, ds, h1, h2⟩ := h
  have nj : i ≠ j := fun e => by
    subst e
    by_cases hi : i < σd.length
    · rw [List.getElem?_set_self hi] at h1; cases h1
    · rw [List.getElem?_eq_none (by simpa using hi)] at h1; cases h1
  rw [List.getElem?_set_ne nj] at h1 h2
  exact ⟨j, ds, h1, h2⟩

/-! ### targets -/
mutual
def lenT : Tgs → Nat
  | .nil => 0
  | .cons _ ts => lenT ts + 1
end
mutual
def gT (K : PySem.W.Frag) : Tg → TG
  | .nm i => gName i
  | .tp ts => gTup K (lenT ts) (gTs K ts)
def gTs (K : PySem.W.Frag) : Tgs → TGs
  | .nil => gNil
  | .cons t ts => gCons (gT K t) (gTs K ts)
end
mutual
def chkT (N : List Str) (sc : PySem.Scope) : Tg → PySem.Expr → Bool
  | .nm i, .Name x _ => decide (N[i]? = some x) && locB sc x
  | .tp ts, .Tuple es _ _ => chkTs N sc ts es
  | _, _ => false
def chkTs (N : List Str) (sc : PySem.Scope) : Tgs → List PySem.Expr → Bool
  | .nil, [] => true
  | .cons t ts, e :: es => nostar e && chkT N sc t e && chkTs N sc ts es
  | _, _ => false
end
theorem asgE_no {e : PySem.Expr} (h : nostar e = true) (es : List PySem.Expr) (env : PySem.Env) : assignEach (e :: es) env = (false, assign e env) :: assignEach es env := by
  cases e <;> first | rfl | exact nomatch h
theorem asgE_ok {N : List Str} {sc : PySem.Scope} : ∀ {ts : Tgs} {es : List PySem.Expr} (env : PySem.Env), chkTs N sc ts es = true → (assignEach es env).length = lenT ts ∧ (assignEach es env).findIdx? (·.1) = none
  | .nil, [], env, _ => ⟨rfl, rfl⟩
  | .cons t ts, e :: es, env, h => by
    have h : (nostar e && chkT N sc t e && chkTs N sc ts es) = true := h
    rw [Bool.and_eq_true, Bool.and_eq_true] at h
    rw [asgE_no h.1.1]
    obtain ⟨h1, h2⟩ := asgE_ok env h.2
    refine ⟨by rw [List.length_cons, h1]; rfl, ?_⟩
    rw [List.findIdx?_cons, h2]; rfl
  | .nil, _ :: _, _, h => nomatch h
  | .cons _ _, [], _, h => nomatch h
mutual
theorem sT_tg {X : Cx} {N : List Str} {sc : PySem.Scope} (G : Good X N sc) : ∀ (t : Tg) (e : PySem.Expr), chkT N sc t e = true → PG X e (gT X.K t)
  | .nm i, .Name x pos, h => by
    have h : (decide (N[i]? = some x) && locB sc x) = true := h
    rw [Bool.and_eq_true, decide_eq_true_eq] at h
    obtain ⟨h1, h2⟩ := G.loc h.2
    exact pg_name (by rw [G.hN]; exact G.nd) (by rw [G.hN]; exact h.1) h1 h2
  | .tp ts, .Tuple es k pos, h => by
    obtain ⟨h1, h2⟩ := asgE_ok (N := N) (sc := sc) X.env (show chkTs N sc ts es = true from h)
    exact pg_tup G.calm (sTs_tg G ts es h) h1 h2
  | .nm _, .BoolOp .., h | .nm _, .NamedExpr .., h | .nm _, .BinOp .., h | .nm _, .UnaryOp .., h | .nm _, .Lambda .., h | .nm _, .IfExp .., h | .nm _, .Dict .., h | .nm _, .Set .., h | .nm _, .ListComp .., h | .nm _, .SetComp .., h | .nm _, .DictComp .., h | .nm _, .GeneratorExp .., h
  | .nm _, .Await .., h | .nm _, .Yield .., h | .nm _, .YieldFrom .., h | .nm _, .Compare .., h | .nm _, .Call .., h | .nm _, .FormattedValue .., h | .nm _, .JoinedStr .., h | .nm _, .Constant .., h | .nm _, .Attribute .., h | .nm _, .Subscript .., h | .nm _, .Starred .., h | .nm _, .List .., h | .nm _, .Tuple .., h | .nm _, .Slice .., h => nomatch h
  | .tp _, .BoolOp .., h | .tp _, .NamedExpr .., h | .tp _, .BinOp .., h | .tp _, .UnaryOp .., h | .tp _, .Lambda .., h | .tp _, .IfExp .., h | .tp _, .Dict .., h | .tp _, .Set .., h | .tp _, .ListComp .., h | .tp _, .SetComp .., h | .tp _, .DictComp .., h | .tp _, .GeneratorExp .., h
  | .tp _, .Await .., h | .tp _, .Yield .., h | .tp _, .YieldFrom .., h | .tp _, .Compare .., h | .tp _, .Call .., h | .tp _, .FormattedValue .., h | .tp _, .JoinedStr .., h | .tp _, .Constant .., h | .tp _, .Attribute .., h | .tp _, .Subscript .., h | .tp _, .Starred .., h | .tp _, .List .., h | .tp _, .Name .., h | .tp _, .Slice .., h => nomatch h
theorem sTs_tg {X : Cx} {N : List Str} {sc : PySem.Scope} (G : Good X N sc) : ∀ (ts : Tgs) (es : List PySem.Expr), chkTs N sc ts es = true → PGs X es (gTs X.K ts)
  | .nil, [], _ => pgs_nil
  | .cons t ts, e :: es, h => by
    have h : (nostar e && chkT N sc t e && chkTs N sc ts es) = true := h
    rw [Bool.and_eq_true, Bool.and_eq_true] at h
    refine pgs_cons (sT_tg G t e h.1.2) (sTs_tg G ts es h.2) ?_
    rw [asgE_no h.1.1]; rfl
  | .nil, _ :: _, h => nomatch h
  | .cons _ _, [], h => nomatch h
end
theorem wipe_set {σ : St} {v : Option V} {i : Nat} : ∀ {vs : List Nat}, i ∈ vs → wipe (σ.set i v) vs = wipe σ vs
  | [], h => nomatch h
  | w :: vs, h => by
    unfold wipe
    by_cases e : i ∈ vs
    · rw [wipe_set e]
    · have : i = w := by
        rcases List.mem_cons.mp h with h | h
        · exact h
        · exact absurd h e
      subst this
      have go : ∀ (us : List Nat), i ∉ us → wipe (σ.set i v) us = (wipe σ us).set i v := fun us => by
        induction us with
        | nil => intro _; rfl
        | cons u us ih =>
          intro hn
          simp only [List.mem_cons, not_or] at hn
          unfold wipe
          rw [ih hn.2, List.set_comm _ _ hn.1]
      rw [go vs e, List.set_set]
theorem asgTs_len : ∀ {ts : Tgs} {ds : List D} {σd σd' : Sg}, asgTs ts ds σd = some σd' → ds.length = lenT ts := fun {ts} => by
  intro ds
  induction ds generalizing ts with
  | nil =>
    intro σd σd' h
    cases ts with
    | nil => rfl
    | cons _ _ => cases h
  | cons d ds ih =>
    intro σd σd' h
    cases ts with
    | nil => cases h
    | cons t ts =>
      obtain ⟨σ1, _, h2⟩ := Option.bind_eq_some_iff.mp (show (asgT t d σd).bind (fun σ => asgTs ts ds σ) = some σd' from h)
      rw [List.length_cons, ih h2]; rfl
/-- a value is put in a target -/
def InS (vs : List Nat) (ws : List Nat) : Prop := ∀ i ∈ vs, i ∈ ws
mutual
theorem tg_ok {ws : List Nat} : ∀ (t : Tg) (v : V) (d : D) (σd σd' : Sg) (σ : St) (Q : St → Hp → Prop), InS t.slots ws → BIm K M W σd z σ H → Rp K W H v d → asgT t d σd = some σd' →
    (∀ σ', BIm K M W σd' z σ' H → wipe σ' ws = wipe σ ws → (∀ a, OwnA σd' σ' a → OwnA σd σ a) → Q σ' H) → gT K t v σ H Q
  | .nm i, v, d, σd, σd', σ, Q, hs, b, r, e, q => by
    cases e
    exact q _ (b.set r) (wipe_set (hs i (by simp [Tg.slots]))) OwnA.set
  | .tp ts, v, d, σd, σd', σ, Q, hs, b, r, e, q => by
    cases d with
    | tup ds =>
      obtain ⟨a, vs, rfl, q1, r⟩ := r
      have e : asgTs ts ds σd = some σd' := e
      exact ⟨a, vs, rfl, q1, by rw [r.len]; exact asgTs_len e, tgs_ok ts vs ds σd σd' σ Q hs b r e q⟩
    | ktp ks =>
      obtain ⟨a, rfl, q1, r⟩ := Rp.ktup r
      have e : asgTs ts (ks.map kyD) σd = some σd' := e
      exact ⟨a, _, rfl, q1, by rw [r.len]; exact asgTs_len e, tgs_ok ts _ _ σd σd' σ Q hs b r e q⟩
    | _ => exact nomatch e
theorem tgs_ok {ws : List Nat} : ∀ (ts : Tgs) (vs : List V) (ds : List D) (σd σd' : Sg) (σ : St) (Q : St → Hp → Prop), InS ts.slots ws → BIm K M W σd z σ H → Rps K W H vs ds → asgTs ts ds σd = some σd' →
    (∀ σ', BIm K M W σd' z σ' H → wipe σ' ws = wipe σ ws → (∀ a, OwnA σd' σ' a → OwnA σd σ a) → Q σ' H) → gTs K ts vs σ H Q
  | .nil, vs, [], σd, σd', σ, Q, hs, b, r, e, q => by
    cases e
    cases vs with
    | nil => exact ⟨rfl, q σ b rfl fun _ h => h⟩
    | cons _ _ => exact r.elim
  | .nil, vs, _ :: _, σd, σd', σ, Q, hs, b, r, e, q => nomatch e
  | .cons t ts, vs, [], σd, σd', σ, Q, hs, b, r, e, q => nomatch e
  | .cons t ts, vs, d :: ds, σd, σd', σ, Q, hs, b, r, e, q => by
    obtain ⟨σ1, h1, h2⟩ := Option.bind_eq_some_iff.mp (show (asgT t d σd).bind (fun σ => asgTs ts ds σ) = some σd' from e)
    cases vs with
    | nil => exact r.elim
    | cons v vs =>
      refine ⟨v, vs, rfl, tg_ok t v d σd σ1 σ _ (fun i hi => hs i (by simp [Tgs.slots, hi])) b r.1 h1 fun σ2 b2 w2 o2 => ?_⟩
      exact tgs_ok ts vs ds σ1 σd' σ2 Q (fun i hi => hs i (by simp [Tgs.slots, hi])) b2 r.2 h2 fun σ3 b3 w3 o3 => q σ3 b3 (w3.trans w2) fun a h => o2 a (o3 a h)
end
end
end EV

namespace EV
open PySem L2

def Iv.len : Iv → Nat
  | .l ds => ds.length
  | .r _ n => n
def Iv.get : Iv → Nat → Option D
  | .l ds, i => ds[i]?
  | .r lo n, i => if i < n then some (.int (lo + i)) else none
def Iv.drop : Iv → Nat → Iv
  | .l ds, i => .l (ds.drop i)
  | .r lo n, i => .r (lo + i) (n - i)
theorem Iv.get_lt : ∀ {iv : Iv} {i : Nat}, i < iv.len → ∃ d, iv.get i = some d
  | .l ds, i, h => ⟨ds[i], List.getElem?_eq_getElem h⟩
  | .r lo n, i, h => ⟨_, if_pos h⟩
theorem PI.orr {X : Cx} {tg iter : PySem.Expr} {w1 w2 : TI} (h1 : PI X tg iter w1) (h2 : PI X tg iter w2) : PI X tg iter (fun σ H R => w1 σ H R ∨ w2 σ H R) := by
  refine ⟨fun pins s σ H R I h => ?_⟩
  rcases h with h | h
  · exact h1.run pins s σ H R I h
  · exact h2.run pins s σ H R I h
theorem _root_.L2.PI.evi {X : Cx} {tg iter : PySem.Expr} {w w' : TI} (h : PI X tg iter w) (i : ∀ σ H R, w' σ H R → w σ H R) : PI X tg iter w' := ⟨fun pins s σ H R I q => h.run pins s σ H R I (i σ H R q)⟩

section
variable {K : PySem.W.Frag} {M : Mx} {Z : Cxt} {W : Wd} {σd : Sg} {z : Sto} {σ : St} {H : Hp}
/-- what is walked yields what the evaluator's walk says -/
structure ItOk (K : PySem.W.Frag) (W1 : Wd) (H1 : Hp) (iv : Iv) (J : It) : Prop where
  stop : ∀ i W H, Mo W1 H1 W H → iv.len ≤ i → i ≤ iv.len → J.stop i H
  go : ∀ i W H d, Mo W1 H1 W H → iv.get i = some d → J.go i H ∧ ∀ x H', J.yld i H x H' → Same H H' ∧ Rp K W H' x d
def tI (K : PySem.W.Frag) (M : Mx) (Z : Cxt) (it : I) : TI := fun σ H R => ∃ W σd z, BIm K M W σd z σ H ∧ Post K M W σd σ H (evI Z it σd z) fun iv _ W' H' => ∀ J, ItOk K W' H' iv J → R J H'
theorem it_list {a : Addr} {vs : List V} {ds : List D} (f : W.F a) (e : H a = some (.lst vs)) (r : Rps K W H vs ds) : ItOk K W H (.l ds) (Itl K a) := by
  refine ⟨fun i W' H' m h _ => ⟨vs, SqL.of (m.keepF a _ f e), by rw [r.len]; exact h⟩, fun i W' H' d m h => ?_⟩
  obtain ⟨v, hv, rv⟩ := r.get h
  refine ⟨⟨vs, v, SqL.of (m.keepF a _ f e), hv⟩, fun x H'' y => ?_⟩
  obtain ⟨rfl, y⟩ := y
  have := y vs (SqL.of (m.keepF a _ f e))
  rw [hv] at this; cases this
  exact ⟨Same.refl _, Rp.mo m _ _ rv⟩
theorem it_tup {a : Addr} {vs : List V} {ds : List D} (e : SqT K H a vs) (r : Rps K W H vs ds) : ItOk K W H (.l ds) (Itt K a) := by
  refine ⟨fun i W' H' m h _ => ⟨vs, SqT.mo m e, by rw [r.len]; exact h⟩, fun i W' H' d m h => ?_⟩
  obtain ⟨v, hv, rv⟩ := r.get h
  refine ⟨⟨vs, v, SqT.mo m e, hv⟩, fun x H'' y => ?_⟩
  obtain ⟨rfl, y⟩ := y
  have := y vs (SqT.mo m e)
  rw [hv] at this; cases this
  exact ⟨Same.refl _, Rp.mo m _ _ rv⟩
theorem it_str {l : List Nat} (ok : StrOk l) : ItOk K W H (.l (l.map fun c => .str [c])) (Its ⟨l.toArray⟩) := by
  refine ⟨fun i W' H' m h _ => ?_, fun i W' H' d m h => ?_⟩
  · show l.toArray.size ≤ i
    rw [List.size_toArray]
    have h : (l.map fun c => D.str [c]).length ≤ i := h
    rw [List.length_map] at h; exact h
  · have h : (l.map fun c => D.str [c])[i]? = some d := h
    rw [List.getElem?_map] at h
    obtain ⟨c, hc, rfl⟩ := Option.map_eq_some_iff.mp h
    refine ⟨?_, fun x H'' y => ?_⟩
    · show i < l.toArray.size
      rw [List.size_toArray]
      exact (List.getElem?_eq_some_iff.mp hc).1
    · obtain ⟨rfl, c', hc', rfl⟩ := y
      have hc' : l.toArray[i]? = some c' := hc'
      rw [List.getElem?_toArray, hc] at hc'
      cases hc'
      refine ⟨Same.refl _, rfl, by show 1 ≤ lim; decide, fun y hy => ?_⟩
      have hy : y = c := by simpa using hy
      subst hy
      exact ok.2 y (List.mem_of_getElem? hc)
theorem it_rng {lo : Int} {n : Nat} : ItOk K W H (.r lo n) (Itr lo n) := by
  refine ⟨fun i W' H' m h _ => h, fun i W' H' d m h => ?_⟩
  have h : (if i < n then some (D.int (lo + i)) else none) = some d := h
  split at h
  · rename_i hi
    cases h
    refine ⟨hi, fun x H'' y => ?_⟩
    obtain ⟨rfl, rfl⟩ := y
    exact ⟨Same.refl _, rfl⟩
  · cases h
theorem zipIdx_get {ds : List D} {i : Nat} {d : D} (h : (ds.zipIdx.map fun p => D.tup [.int p.2, p.1])[i]? = some d) : ∃ x, ds[i]? = some x ∧ d = .tup [.int (i : Nat), x] := by
  rw [List.getElem?_map, List.getElem?_zipIdx] at h
  cases e : ds[i]? with
  | none => rw [e] at h; cases h
  | some x =>
    rw [e] at h
    refine ⟨x, rfl, ?_⟩
    simpa using h.symm
theorem it_enum {a : Addr} {vs : List V} {ds : List D} (f : W.F a) (e : H a = some (.lst vs)) (r : Rps K W H vs ds) : ItOk K W H (.l (ds.zipIdx.map fun p => .tup [.int p.2, p.1])) (Ite K a) := by
  refine ⟨fun i W' H' m h _ => ⟨vs, SqL.of (m.keepF a _ f e), ?_⟩, fun i W' H' d m h => ?_⟩
  · have h : (ds.zipIdx.map fun p => D.tup [.int p.2, p.1]).length ≤ i := h
    rw [List.length_map, List.length_zipIdx] at h
    rw [r.len]; exact h
  obtain ⟨x0, hx0, rfl⟩ := zipIdx_get (show (ds.zipIdx.map fun p => D.tup [.int p.2, p.1])[i]? = some d from h)
  obtain ⟨v, hv, rv⟩ := r.get hx0
  refine ⟨⟨vs, v, SqL.of (m.keepF a _ f e), hv⟩, fun x H'' y => ?_⟩
  obtain ⟨T, x1, rfl, hT, rfl, y⟩ := y
  have := y vs (SqL.of (m.keepF a _ f e))
  rw [hv] at this; cases this
  have sm : Same H' (upd H' T (.tup [.int (i : Nat), v])) := Same.new hT
  exact ⟨sm, T, _, rfl, SqT.of upd_same, rfl, Rp.mo (Le.same sm).toMo _ _ (Rp.mo m _ _ rv), trivial⟩
theorem sI_seq {X : Cx} {tg e : PySem.Expr} {c : C} (hb : isBor c = false) (h : PE X e (tE X.K M Z c)) : PI X tg e (tI X.K M Z (.seq c)) := by
  refine (PI.orr (PI.orr (pi_list h) (pi_tup h)) (pi_str h)).evi fun σ H R q => ?_
  obtain ⟨W, σd, z, b, p⟩ := q
  have p := Post.of_bind p
  cases e : evE Z c σd z with
  | err => rw [e] at p; exact p.elim
  | exn x z1 => exact .inl (.inl ⟨W, σd, z, b, by rw [e] at p ⊢; exact p⟩)
  | ok d z1 =>
    rw [e] at p
    cases d with
    | lst ds =>
      refine .inl (.inl ⟨W, σd, z, b, ?_⟩)
      rw [e]
      intro W1 H1 l1 b1 v r
      obtain ⟨a, vs, rfl, f, q, r⟩ := (Rpx_no hb).mp r
      exact ⟨a, rfl, ⟨vs, SqL.of q⟩, p W1 H1 l1 b1 W1 H1 Le.refl b1 _ (it_list f q r)⟩
    | tup ds =>
      refine .inl (.inr ⟨W, σd, z, b, ?_⟩)
      rw [e]
      intro W1 H1 l1 b1 v r
      obtain ⟨a, vs, rfl, q, r⟩ := (Rpx_no hb).mp r
      exact ⟨a, rfl, ⟨vs, q⟩, p W1 H1 l1 b1 W1 H1 Le.refl b1 _ (it_tup q r)⟩
    | str l =>
      refine .inr ⟨W, σd, z, b, ?_⟩
      rw [e]
      intro W1 H1 l1 b1 v r
      obtain ⟨rfl, ok⟩ := (Rpx_no hb).mp r
      exact ⟨_, rfl, p W1 H1 l1 b1 W1 H1 Le.refl b1 _ (it_str ok)⟩
    | _ =>
      refine .inl (.inl ⟨W, σd, z, b, ?_⟩)
      rw [e]
      exact fun W1 H1 l1 b1 v r => (p W1 H1 l1 b1).elim
theorem sI_rng1 {X : Cx} {tg a : PySem.Expr} {p pos : PySem.Pos} {c : C} (hs : nostar a = true) (hg : Gl X "range") (hm : X.mg "range" = none) (h : PE X a (tE X.K M Z c)) : PI X tg (.Call (.Name "range" p) [a] [] pos) (tI X.K M Z (.rng1 c)) := by
  refine (pi_range1 hg hm (pa_cons h pa_nil (star_no hs _ _)) (star_no hs _ _)).evi fun σ H R q => ?_
  obtain ⟨W, σd, z, b, p⟩ := q
  refine one b p fun d v z2 W2 H2 l b2 r p2 => ?_
  cases d with
  | int j =>
    cases r
    dsimp only at p2
    split at p2
    · rename_i hj
      exact ⟨j, rfl, hj.1, hj.2, p2 W2 H2 Le.refl b2 _ it_rng⟩
    · exact p2.elim
  | _ => exact p2.elim
theorem sI_rng2 {X : Cx} {tg a a2 : PySem.Expr} {p pos : PySem.Pos} {c c2 : C} (hs : nostar a = true) (hs2 : nostar a2 = true) (hg : Gl X "range") (hm : X.mg "range" = none) (h : PE X a (tE X.K M Z c)) (h2 : PE X a2 (tE X.K M Z c2)) : PI X tg (.Call (.Name "range" p) [a, a2] [] pos) (tI X.K M Z (.rng2 c c2)) := by
  refine (pi_range2 hg hm (pa_cons h (pa_cons h2 pa_nil (star_no hs2 _ _)) (star_no hs _ _)) (by rw [star_no hs, star_no hs2]; rfl) (star_no hs2 _ _)).evi fun σ H R q => ?_
  obtain ⟨W, σd, z, b, p⟩ := q
  refine two b p fun d d2 v v2 z2 W2 H2 l b2 r r2 p2 => ?_
  cases d with
  | int i =>
    cases d2 with
    | int j =>
      cases r; cases r2
      dsimp only at p2
      split at p2
      · rename_i hj
        exact ⟨i, j, rfl, hj, p2 W2 H2 Le.refl b2 _ it_rng⟩
      · exact p2.elim
    | _ => exact p2.elim
  | _ => exact p2.elim

/-! ### comprehensions -/
theorem BI.write {W0 : Wd} {H0 : Hp} (b : BI K W0 H0 W σd z σ H) {a : Addr} {xs ys : List V} (e : H a = some (.lst xs)) (hf : ¬ W.F a) (hs : W.s ≠ some a) (hl : a ∉ W.L) (h0 : H0 a = none) (ho : ¬ OwnA σd σ a) : BI K W0 H0 W σd z σ (upd H a (.lst ys)) := by
  have m : Mo W H W (upd H a (.lst ys)) := Mo.wr e hf
  refine ⟨b.len, fun i sd v h1 h2 => ?_, b.ap, ⟨b.sr.ok.wr hf, CsR.wr e hf hl b.sr.cs, ?_⟩, ⟨b.le.toMo.trans m, b.le.fn, b.le.ln, b.le.sn, fun c o q hl hs' => ?_, fun c o q => ?_⟩⟩
  · have q := b.sl i sd v h1 h2
    cases sd with
    | none => trivial
    | some sl => cases sl with
      | val d =>
        obtain ⟨v', e, r⟩ := q
        exact ⟨v', e, Rp.mo m d v' r⟩
      | own ds =>
        obtain ⟨c, vs, rfl, q1, q2, q3⟩ := q
        refine ⟨c, vs, rfl, ?_, Rps.mo m ds vs q2, q3⟩
        rw [upd_ne (fun z => ho ⟨i, ds, h1, by rw [← z]; exact h2⟩)]
        exact q1
      | dic _ => exact q.elim
  · have q := b.sr.st
    cases e : z.st with
    | none => rw [e] at q; exact q
    | some p =>
      obtain ⟨xs, c, n⟩ := p
      rw [e] at q
      obtain ⟨s, v, h1, h2, h3⟩ := q
      exact ⟨s, v, h1, by rw [upd_ne (fun (z : s = a) => hs (by rw [← z]; exact h1))]; exact h2, Rp.mo m _ _ h3⟩
  · have q2 := b.le.keep c o q hl hs'
    rw [upd_ne (fun z => by rw [z, h0] at q; cases q)]
    exact q2
  · obtain ⟨o', q2⟩ := b.le.kept c o q
    by_cases hc : c = a
    · subst hc; exact ⟨_, upd_same⟩
    · exact ⟨o', by rw [upd_ne hc]; exact q2⟩
theorem wipeE_get : ∀ (vs : List Nat) (i : Nat) (sl : Slot), (wipeE σd vs)[i]? = some (some sl) → σd[i]? = some (some sl) ∧ i ∉ vs := fun vs => by
  induction vs with
  | nil => intro i sl h; exact ⟨h, by simp⟩
  | cons v vs ih =>
    intro i sl h
    unfold wipeE at h
    by_cases hi : v = i
    · subst hi
      by_cases hv : v < (wipeE σd vs).length
      · rw [List.getElem?_set_self hv] at h; cases h
      · rw [List.getElem?_eq_none (by simpa using hv)] at h; cases h
    · rw [List.getElem?_set_ne hi] at h
      obtain ⟨h1, h2⟩ := ih i sl h
      exact ⟨h1, by simp only [List.mem_cons, not_or]; exact ⟨fun e => hi e.symm, h2⟩⟩
theorem wipe_get : ∀ (vs : List Nat) (i : Nat), i ∉ vs → (L2.wipe σ vs)[i]? = σ[i]? := fun vs => by
  induction vs with
  | nil => intro i h; rfl
  | cons v vs ih =>
    intro i h
    simp only [List.mem_cons, not_or] at h
    unfold L2.wipe
    rw [List.getElem?_set_ne (fun e => h.1 e.symm)]
    exact ih i h.2
theorem wipeE_len : ∀ vs : List Nat, (wipeE σd vs).length = σd.length := fun vs => by
  induction vs with
  | nil => rfl
  | cons v vs ih => unfold wipeE; rw [List.length_set, ih]
theorem OwnA.wipe (vs : List Nat) (a : Addr) (h : OwnA (wipeE σd vs) (L2.wipe σ vs) a) : OwnA σd σ a := by
  obtain ⟨i, ds, h1, h2⟩ := h
  obtain ⟨e1, e2⟩ := wipeE_get vs i _ h1
  rw [wipe_get vs i e2] at h2
  exact ⟨i, ds, e1, h2⟩
theorem BI.wipe {W0 : Wd} {H0 : Hp} (b : BI K W0 H0 W σd z σ H) (vs : List Nat) : BI K W0 H0 W (wipeE σd vs) z (L2.wipe σ vs) H := by
  refine ⟨by rw [wipeE_len, wipe_length]; exact b.len, fun i sd v h1 h2 => ?_, fun i j a ds es h1 h2 h3 h4 => ?_, b.sr, b.le⟩
  · cases sd with
    | none => trivial
    | some sl =>
      obtain ⟨e1, e2⟩ := wipeE_get vs i sl h1
      rw [wipe_get vs i e2] at h2
      exact b.sl i _ v e1 h2
  · obtain ⟨e1, e2⟩ := wipeE_get vs i _ h1
    obtain ⟨e3, e4⟩ := wipeE_get vs j _ h2
    rw [wipe_get vs i e2] at h3
    rw [wipe_get vs j e4] at h4
    exact b.ap i j a ds es e1 e3 h3 h4
theorem goI_end (f : D → Sto → Res (List D)) (iv : Iv) (z : Sto) : goI f (iv.drop iv.len) z = .ok [] z := by
  cases iv with
  | l ds => show goL f (ds.drop ds.length) z = _; rw [List.drop_length]; rfl
  | r lo n => show goR f _ (n - n) z = _; rw [Nat.sub_self]; rfl
theorem goI_zero (f : D → Sto → Res (List D)) (iv : Iv) (z : Sto) : goI f (iv.drop 0) z = goI f iv z := by
  cases iv with
  | l ds => rfl
  | r lo n =>
    show goR f (lo + ((0 : Nat) : Int)) (n - 0) z = goR f lo n z
    simp
theorem goI_step {f : D → Sto → Res (List D)} {iv : Iv} {i : Nat} {z zf : Sto} {rest : List D} {d : D} (hd : iv.get i = some d) (h : goI f (iv.drop i) z = .ok rest zf) :
    ∃ a z' r2, f d z = .ok a z' ∧ goI f (iv.drop (i + 1)) z' = .ok r2 zf ∧ rest = a ++ r2 := by
  have core : ∀ {g : Sto → Res (List D)}, ((f d z).bind fun a z => (g z).bind fun b z => .ok (a ++ b) z) = .ok rest zf → ∃ a z' r2, f d z = .ok a z' ∧ g z' = .ok r2 zf ∧ rest = a ++ r2 := fun {g} h => by
    cases e1 : f d z with
    | ok a z1 =>
      rw [e1, Res.bind_ok] at h
      cases e2 : g z1 with
      | ok r2 z2 =>
        rw [e2, Res.bind_ok] at h
        cases h
        exact ⟨a, z1, r2, rfl, e2, rfl⟩
      | exn _ _ => rw [e2] at h; cases h
      | err => rw [e2] at h; cases h
    | exn _ _ => rw [e1] at h; cases h
    | err => rw [e1] at h; cases h
  cases iv with
  | l ds =>
    have hd : ds[i]? = some d := hd
    obtain ⟨hi, e⟩ := List.getElem?_eq_some_iff.mp hd
    have h : goL f (ds.drop i) z = .ok rest zf := h
    rw [List.drop_eq_getElem_cons hi, e] at h
    exact core (g := fun z => goL f (ds.drop (i + 1)) z) h
  | r lo n =>
    have hd : (if i < n then some (D.int (lo + i)) else none) = some d := hd
    split at hd
    · rename_i hi
      cases hd
      have h : goR f (lo + i) (n - i) z = .ok rest zf := h
      obtain ⟨k, hk⟩ : ∃ k, n - i = k + 1 := ⟨n - i - 1, by omega⟩
      rw [hk] at h
      have e : goI f ((Iv.r lo n).drop (i + 1)) = goR f (lo + i + 1) k := by
        show goR f (lo + ((i + 1 : Nat) : Int)) (n - (i + 1)) = goR f (lo + i + 1) k
        rw [show lo + ((i + 1 : Nat) : Int) = lo + i + 1 by omega, show n - (i + 1) = k by omega]
      rw [e]
      exact core (g := fun z => goR f (lo + i + 1) k z) h
    · cases hd
end
end EV

namespace EV
open PySem L2
section
variable {K : PySem.W.Frag} {M : Mx} {Z : Cxt} {W W1 W2 : Wd} {σd : Sg} {z z1 z2 : Sto} {σ : St} {H H1 H2 : Hp}
/-- a comprehension under way: its list at D -/
structure LI (K : PySem.W.Frag) (M : Mx) (σd : Sg) (σ : St) (W1 : Wd) (H1 : Hp) (D : Addr) (W : Wd) (H : Hp) (z : Sto) (ads : List EV.D) : Prop where
  le : Le W1 H1 W H
  b : BIm K M W σd z σ H
  ex : ∃ acc, H D = some (.lst acc) ∧ Rps K W H acc ads
  nf : ¬ W.F D
  ns : W.s ≠ some D
  nl : D ∉ W.L
theorem LI.start {D : Addr} (b : BIm K M W1 σd z σ H1) (hD : H1 D = none) : LI K M σd σ W1 H1 D W1 (upd H1 D (.lst [])) z [] := by
  have sm : Same H1 (upd H1 D (.lst [])) := Same.new hD
  refine ⟨Le.same sm, BI.same b sm, ⟨[], upd_same, trivial⟩, fun f => ?_, fun e => ?_, fun hm => ?_⟩
  · obtain ⟨o, e⟩ := b.sr.ok.ft D f
    rw [hD] at e; cases e
  · obtain ⟨o, e⟩ := b.sr.sf e
    rw [hD] at e; cases e
  · obtain ⟨o, e⟩ := b.sr.ok.ll D hm
    rw [hD] at e; cases e
theorem LI.step {D : Addr} {ads : List EV.D} (l : LI K M σd σ W1 H1 D W H z ads) (le : Le W H W2 H2) (sr : SR K W2 H2 z2) : LI K M σd σ W1 H1 D W2 H2 z2 ads := by
  obtain ⟨acc, e, r⟩ := l.ex
  refine ⟨l.le.trans le, l.b.step le sr, ⟨acc, le.keep D _ e l.nl l.ns, Rps.mo le.toMo _ _ r⟩, fun f => ?_, fun q => ?_, fun q => ?_⟩
  · rcases le.fn D f with f | f
    · exact l.nf f
    · rw [e] at f; cases f
  · rcases le.sn D q with q | q
    · exact l.ns q
    · rw [e] at q; cases q
  · rcases le.ln D q with q | q
    · exact l.nl q
    · rw [e] at q; cases q
theorem LI.app {D : Addr} {ads : List EV.D} {acc : List V} {y : V} {d : EV.D} (hD : H1 D = none) (h0 : M.H0 D = none) (ho : ¬ OwnA σd σ D) (l : LI K M σd σ W1 H1 D W H z ads) (e : H D = some (.lst acc)) (r : Rp K W H y d) : LI K M σd σ W1 H1 D W (upd H D (.lst (acc ++ [y]))) z (ads ++ [d]) := by
  obtain ⟨acc', e', ra⟩ := l.ex
  rw [e] at e'; cases e'
  have b' := BI.write (ys := acc ++ [y]) l.b e l.nf l.ns l.nl h0 ho
  have m : Mo W H W (upd H D (.lst (acc ++ [y]))) := Mo.wr e l.nf
  refine ⟨⟨l.le.toMo.trans m, l.le.fn, l.le.ln, l.le.sn, fun c o q hl hs => ?_, fun c o q => ?_⟩, b', ⟨_, upd_same, Rps.app (Rps.mo m _ _ ra) ⟨Rp.mo m _ _ r, trivial⟩⟩, l.nf, l.ns, l.nl⟩
  · have q2 := l.le.keep c o q hl hs
    rw [upd_ne (fun (z : c = D) => by rw [z, hD] at q; cases q)]
    exact q2
  · obtain ⟨o', q2⟩ := l.le.kept c o q
    by_cases hc : c = D
    · subst hc; exact ⟨_, upd_same⟩
    · exact ⟨o', by rw [upd_ne hc]; exact q2⟩
/-- the comprehension's end -/
theorem LI.done {D : Addr} {all : List EV.D} {Q : VK} (le0 : Le W H W1 H1) (hD : H1 D = none) (l : LI K M σd σ W1 H1 D W2 H2 z2 all)
    (q : ∀ W' H', Le W1 H1 W' H' → BIm K M W' σd z2 σ H' → ∀ v, RpN K H W' H' v (.lst all) → Q v H') : Q (.ref D) H2 := by
  obtain ⟨acc, e, r⟩ := l.ex
  exact q W2 H2 l.le l.b _ ⟨D, acc, rfl, e, r, l.nf, l.ns, l.nl, le0.none_of hD⟩
def noW (M : Mx) : Mx := { M with wx := fun _ _ _ _ => False }
/-- one turn's f -/
def turnI (Z : Cxt) (t : Tg) (c e : C) (vs : List Nat) (σ : Sg) : D → Sto → Res (List D) := fun d z => match asgT t d (wipeE σ vs) with
      | some σ => (match evE Z c σ z with
        | .ok x z => (match truD x with
          | some true => (match evE Z e σ z with
            | .ok x z => .ok [x] z
            | _ => .err)
          | some false => .ok [] z
          | none => .err)
        | _ => .err)
      | none => .err
theorem turnI_ok {t : Tg} {c e : C} {vs : List Nat} {d : D} {a : List D} (h : turnI Z t c e vs σd d z = .ok a z2) : ∃ σ1, asgT t d (wipeE σd vs) = some σ1 ∧ ((∃ x z3 y, evE Z c σ1 z = .ok x z3 ∧ truD x = some true ∧ evE Z e σ1 z3 = .ok y z2 ∧ a = [y]) ∨ (∃ x, evE Z c σ1 z = .ok x z2 ∧ truD x = some false ∧ a = [])) := by
  unfold turnI at h
  cases e1 : asgT t d (wipeE σd vs) with
  | none => rw [e1] at h; cases h
  | some σ1 =>
    rw [e1] at h
    refine ⟨σ1, rfl, ?_⟩
    dsimp only at h
    cases e2 : evE Z c σ1 z with
    | ok x z3 =>
      rw [e2] at h
      dsimp only at h
      cases e3 : truD x with
      | none => rw [e3] at h; cases h
      | some k =>
        rw [e3] at h
        cases k with
        | true =>
          dsimp only at h
          cases e4 : evE Z e σ1 z3 with
          | ok y z4 =>
            rw [e4] at h; cases h
            exact .inl ⟨x, z3, y, rfl, e3, e4, rfl⟩
          | exn _ _ => rw [e4] at h; cases h
          | err => rw [e4] at h; cases h
        | false =>
          cases h
          exact .inr ⟨x, rfl, e3, rfl⟩
    | exn _ _ => rw [e2] at h; cases h
    | err => rw [e2] at h; cases h
/-- a turn of a block; what it leans on stays -/
theorem turn_readM {t : Tg} {c e : C} {vs : List Nat} {d : D} {a : List D} {x : V} {tt : TT} {Dd : Addr} {ads : List D} {Nx : Hp → Prop} (he : isBor e = false) (hs : InS t.slots vs) (hD : H1 Dd = none) (h0 : M.H0 Dd = none) (ho : ¬ OwnA σd σ Dd)
    (htt : ∀ σ H R, tB K (noW M) Z c σ H R → tt σ H R) (hf : turnI Z t c e vs σd d z = .ok a z2) (l : LI K M σd σ W1 H1 Dd W H z ads) (r : Rp K W H x d) (hz : (ads ++ a).length ≤ lim)
    (hN : ∀ W2 H2, LI K M σd σ W1 H1 Dd W2 H2 z2 (ads ++ a) → Mo W H W2 H2 → Nx H2) :
    gT K t x (wipe σ vs) H fun σ2 H2 => wipe σ2 vs = wipe σ vs ∧ tt σ2 H2 fun b H3 => if b = true then tE K (noW M) Z e σ2 H3 fun y H4 => ∃ acc, H4 Dd = some (.lst acc) ∧ acc.length < sizeLine ∧ Nx (upd H4 Dd (.lst (acc ++ [y]))) else Nx H3 := by
  obtain ⟨σ1, ha, hcase⟩ := turnI_ok hf
  refine tg_ok (ws := vs) t x d (wipeE σd vs) σ1 (wipe σ vs) _ hs (BI.wipe l.b vs) r ha fun σ' b' w' _ => ⟨?_, htt _ _ _ ?_⟩
  · rw [w']
    have go : ∀ (vs : List Nat) (σ : St), wipe (wipe σ vs) vs = wipe σ vs := fun vs => by
      induction vs with
      | nil => intro σ; rfl
      | cons v vs ih =>
        intro σ
        show (wipe ((wipe σ vs).set v none) vs).set v none = (wipe σ vs).set v none
        by_cases hv : v ∈ vs
        · rw [wipe_set hv, ih]
        · have g2 : ∀ (us : List Nat) (τ : St), v ∉ us → wipe (τ.set v none) us = (wipe τ us).set v none := fun us => by
            induction us with
            | nil => intro τ _; rfl
            | cons u us ih2 =>
              intro τ hn
              simp only [List.mem_cons, not_or] at hn
              show (wipe (τ.set v none) us).set u none = ((wipe τ us).set u none).set v none
              rw [ih2 τ hn.2, List.set_comm _ _ hn.1]
          rw [g2 vs _ hv, ih, List.set_set]
    exact go vs σ
  · have bb : BIm K (noW M) W σ1 z σ' H := b'
    rcases hcase with ⟨q, z3, y, e1, e2, e3, rfl⟩ | ⟨q, e1, e2, rfl⟩
    · refine ⟨W, σ1, z, bb, ?_⟩
      rw [e1, Res.bind_ok, e2]
      intro W3 H3 l3 b3
      refine iteT ?_
      refine ⟨W3, σ1, z3, b3, ?_⟩
      rw [e3]
      intro W4 H4 l4 b4 v rv
      have rv := (Rpx_no he).mp rv
      have L := LI.step l (l3.trans l4) b4.sr
      obtain ⟨acc, ea, ra⟩ := L.ex
      refine ⟨acc, ea, ?_, hN W4 _ (LI.app hD h0 ho L ea rv) ((l3.trans l4).toMo.trans (Mo.wr ea L.nf))⟩
      rw [List.length_append] at hz
      have : acc.length = ads.length := ra.len
      have h1 : [y].length = 1 := rfl
      rw [h1] at hz
      rw [← lim_eq]
      omega
    · refine ⟨W, σ1, z, bb, ?_⟩
      rw [e1, Res.bind_ok, e2]
      intro W3 H3 l3 b3
      refine iteF ?_
      have L := LI.step l l3 b3.sr
      rw [List.append_nil] at hN
      exact hN W3 H3 L l3.toMo
/-- a turn of a block -/
theorem turn_read {t : Tg} {c e : C} {vs : List Nat} {d : D} {a : List D} {x : V} {tt : TT} {Dd : Addr} {ads : List D} {Nx : Hp → Prop} (he : isBor e = false) (hs : InS t.slots vs) (hD : H1 Dd = none) (h0 : M.H0 Dd = none) (ho : ¬ OwnA σd σ Dd)
    (htt : ∀ σ H R, tB K (noW M) Z c σ H R → tt σ H R) (hf : turnI Z t c e vs σd d z = .ok a z2) (l : LI K M σd σ W1 H1 Dd W H z ads) (r : Rp K W H x d) (hz : (ads ++ a).length ≤ lim)
    (hN : ∀ W2 H2, LI K M σd σ W1 H1 Dd W2 H2 z2 (ads ++ a) → Nx H2) :
    gT K t x (wipe σ vs) H fun σ2 H2 => wipe σ2 vs = wipe σ vs ∧ tt σ2 H2 fun b H3 => if b = true then tE K (noW M) Z e σ2 H3 fun y H4 => ∃ acc, H4 Dd = some (.lst acc) ∧ acc.length < sizeLine ∧ Nx (upd H4 Dd (.lst (acc ++ [y]))) else Nx H3 :=
  turn_readM he hs hD h0 ho htt hf l r hz fun W2 H2 L _ => hN W2 H2 L
theorem turnI_noexn {t : Tg} {c e : C} {vs : List Nat} {d : D} {x : Xn} : turnI Z t c e vs σd d z ≠ .exn x z2 := fun h => by
  unfold turnI at h
  repeat' (first | (split at h) | cases h)
theorem goL_noexn {f : D → Sto → Res (List D)} (hf : ∀ d z x z2, f d z ≠ .exn x z2) : ∀ ds z1 x z2, goL f ds z1 ≠ .exn x z2 := fun ds => by
  induction ds with
  | nil => intro z1 x z2 h; cases h
  | cons d ds ih =>
    intro z1 x z2 h
    have h : ((f d z1).bind fun a z => (goL f ds z).bind fun b z => .ok (a ++ b) z) = .exn x z2 := h
    cases e1 : f d z1 with
    | ok a z3 =>
      rw [e1, Res.bind_ok] at h
      cases e2 : goL f ds z3 with
      | ok _ _ => rw [e2] at h; cases h
      | exn _ _ => exact ih _ _ _ e2
      | err => rw [e2] at h; cases h
    | exn _ _ => exact hf _ _ _ _ e1
    | err => rw [e1] at h; cases h
theorem goR_noexn {f : D → Sto → Res (List D)} (hf : ∀ d z x z2, f d z ≠ .exn x z2) : ∀ n lo z1 x z2, goR f lo n z1 ≠ .exn x z2 := fun n => by
  induction n with
  | zero => intro lo z1 x z2 h; cases h
  | succ n ih =>
    intro lo z1 x z2 h
    have h : ((f (.int lo) z1).bind fun a z => (goR f (lo + 1) n z).bind fun b z => .ok (a ++ b) z) = .exn x z2 := h
    cases e1 : f (.int lo) z1 with
    | ok a z3 =>
      rw [e1, Res.bind_ok] at h
      cases e2 : goR f (lo + 1) n z3 with
      | ok _ _ => rw [e2] at h; cases h
      | exn _ _ => exact ih _ _ _ _ e2
      | err => rw [e2] at h; cases h
    | exn _ _ => exact hf _ _ _ _ e1
    | err => rw [e1] at h; cases h
theorem goI_noexn {f : D → Sto → Res (List D)} (hf : ∀ d z x z2, f d z ≠ .exn x z2) : ∀ iv z1 x z2, goI f iv z1 ≠ .exn x z2
  | .l ds, z1, x, z2 => goL_noexn hf ds z1 x z2
  | .r lo n, z1, x, z2 => goR_noexn hf n lo z1 x z2
/-- a comprehension's reading -/
theorem lc_read {t : Tg} {it : I} {c e : C} {tt : TT} {Q : VK} (he : isBor e = false) (htt : ∀ σ H R, tB K (noW M) Z c σ H R → tt σ H R) (h : tN K M Z (.compI t it c e) σ H Q) :
    tLc (tI K M Z it) (gT K t) tt (tE K (noW M) Z e) t.slots σ H Q := by
  obtain ⟨W, σd, z, b, p⟩ := h
  have p : Post K M W σd σ H (if freeAt σd t.slots = true then (evI Z it σd z).bind fun v z => (goI (turnI Z t c e t.slots σd) v z).bind fin else .err) fun d _ W' H' => ∀ v, RpN K H W' H' v d → Q v H' := p
  split at p
  · refine ⟨W, σd, z, b, (Post.of_bind p).mono fun iv z1 W1 H1 l1 b1 p1 J ok D hD => ?_⟩
    -- the whole walk
    cases hall : goI (turnI Z t c e t.slots σd) iv z1 with
    | exn x z2 =>
      exact (goI_noexn (fun d z x z2 => turnI_noexn) _ _ _ _ hall).elim
    | err => rw [hall] at p1; exact p1.elim
    | ok all zf =>
      rw [hall, Res.bind_ok] at p1
      unfold fin at p1
      split at p1
      · rename_i hlen
        refine ⟨fun i m H' => m = iv.len - i ∧ i ≤ iv.len ∧ ∃ W' z' ads rest, LI K M σd σ W1 H1 D W' H' z' ads ∧ goI (turnI Z t c e t.slots σd) (iv.drop i) z' = .ok rest zf ∧ all = ads ++ rest,
          ⟨iv.len, by simp, Nat.zero_le _, W1, z1, [], all, LI.start b1 hD, by rw [goI_zero]; exact hall, rfl⟩, ?_⟩
        rintro i m H' ⟨rfl, hi, W', z', ads, rest, L, hg, rfl⟩
        by_cases hlt : i < iv.len
        · obtain ⟨d, hd⟩ := Iv.get_lt hlt
          obtain ⟨a, z3, r2, hf, hg2, rfl⟩ := goI_step hd hg
          obtain ⟨jg, jy⟩ := ok.go i W' H' d L.le.toMo hd
          refine .inr ⟨jg, fun H2 => ∃ W2, LI K M σd σ W1 H1 D W2 H2 z3 (ads ++ a), fun H2 ⟨W2, L2⟩ => ⟨iv.len - (i + 1), by omega, rfl, hlt, W2, z3, ads ++ a, r2, L2, hg2, by rw [List.append_assoc]⟩, fun x H2 y => ?_⟩
          obtain ⟨sm, rx⟩ := jy x H2 y
          have Ls : LI K M σd σ W1 H1 D W' H2 z' ads := LI.step L (Le.same sm) (L.b.sr.same sm)
          refine turn_read he (fun i h => h) hD (b1.le.none_of hD) (OwnA.tracked b1 hD) htt hf Ls rx ?_ fun W2 H3 L2 => ⟨W2, L2⟩
          rw [← List.append_assoc, List.length_append] at hlen
          omega
        · have e : i = iv.len := by omega
          subst e
          rw [goI_end] at hg
          cases hg
          rw [List.append_nil] at p1
          exact .inl ⟨ok.stop _ W' H' L.le.toMo (Nat.le_refl _) (Nat.le_refl _), LI.done l1 hD L p1⟩
      · exact p1.elim
  · exact p.elim
/-! ### two clauses -/
def turn2 (Z : Cxt) (t : Tg) (it2 : I) (t2 : Tg) (e : C) (vs : List Nat) (σ : Sg) : D → Sto → Res (List D) := fun d z => match asgT t d (wipeE σ vs) with
      | some σ => (match evI Z it2 σ z with
        | .ok v z => goI (turnI Z t2 (.bl true) e t2.slots σ) v z
        | _ => .err)
      | none => .err
theorem turn2_ok {t t2 : Tg} {it2 : I} {e : C} {vs : List Nat} {d : D} {a : List D} (h : turn2 Z t it2 t2 e vs σd d z = .ok a z2) : ∃ σ1 iv z3, asgT t d (wipeE σd vs) = some σ1 ∧ evI Z it2 σ1 z = .ok iv z3 ∧ goI (turnI Z t2 (.bl true) e t2.slots σ1) iv z3 = .ok a z2 := by
  unfold turn2 at h
  cases e1 : asgT t d (wipeE σd vs) with
  | none => rw [e1] at h; cases h
  | some σ1 =>
    rw [e1] at h
    dsimp only at h
    cases e2 : evI Z it2 σ1 z with
    | ok iv z3 =>
      rw [e2] at h
      exact ⟨σ1, iv, z3, rfl, e2, h⟩
    | exn _ _ => rw [e2] at h; cases h
    | err => rw [e2] at h; cases h
theorem turn2_noexn {t t2 : Tg} {it2 : I} {e : C} {vs : List Nat} {d : D} {x : Xn} : turn2 Z t it2 t2 e vs σd d z ≠ .exn x z2 := fun h => by
  unfold turn2 at h
  cases e1 : asgT t d (wipeE σd vs) with
  | none => rw [e1] at h; cases h
  | some σ1 =>
    rw [e1] at h
    dsimp only at h
    cases e2 : evI Z it2 σ1 z with
    | ok iv z3 =>
      rw [e2] at h
      exact goI_noexn (fun d z x z2 => turnI_noexn) _ _ _ _ h
    | exn _ _ => rw [e2] at h; cases h
    | err => rw [e2] at h; cases h
theorem tB_true {c : C} {σ : St} {H : Hp} {R : Bool → Hp → Prop} (h : tB K M Z (.bl true) σ H R) : tYes σ H R := by
  obtain ⟨W, σd, z, b, p⟩ := h
  exact p W H Le.refl b
theorem yes_of {σ : St} {H : Hp} {R : Bool → Hp → Prop} (h : R true H) : tYes σ H R := h
theorem lc2_read {t t2 : Tg} {it it2 : I} {e : C} {Q : VK} (he : isBor e = false) (h : tN K M Z (.comp2 t it t2 it2 e) σ H Q) :
    tLc2 (tI K M Z it) (gT K t) tYes (tI K (noW M) Z it2) (gT K t2) tYes (tE K (noW M) Z e) (t.slots ++ t2.slots) t2.slots σ H Q := by
  obtain ⟨W, σd, z, b, p⟩ := h
  have p : Post K M W σd σ H (if freeAt σd (t.slots ++ t2.slots) = true then (evI Z it σd z).bind fun v z => (goI (turn2 Z t it2 t2 e (t.slots ++ t2.slots) σd) v z).bind fin else .err) fun d _ W' H' => ∀ v, RpN K H W' H' v d → Q v H' := p
  split at p
  · refine ⟨W, σd, z, b, (Post.of_bind p).mono fun iv z1 W1 H1 l1 b1 p1 J ok D hD => ?_⟩
    cases hall : goI (turn2 Z t it2 t2 e (t.slots ++ t2.slots) σd) iv z1 with
    | exn x z2 => exact (goI_noexn (fun d z x z2 => turn2_noexn) _ _ _ _ hall).elim
    | err => rw [hall] at p1; exact p1.elim
    | ok all zf =>
      rw [hall, Res.bind_ok] at p1
      unfold fin at p1
      split at p1
      · rename_i hlen
        refine ⟨fun i m H' => m = iv.len - i ∧ i ≤ iv.len ∧ ∃ W' z' ads rest, LI K M σd σ W1 H1 D W' H' z' ads ∧ goI (turn2 Z t it2 t2 e (t.slots ++ t2.slots) σd) (iv.drop i) z' = .ok rest zf ∧ all = ads ++ rest,
          ⟨iv.len, by simp, Nat.zero_le _, W1, z1, [], all, LI.start b1 hD, by rw [goI_zero]; exact hall, rfl⟩, ?_⟩
        rintro i m H' ⟨rfl, hi, W', z', ads, rest, L, hg, rfl⟩
        by_cases hlt : i < iv.len
        · obtain ⟨d, hd⟩ := Iv.get_lt hlt
          obtain ⟨a, z3, r2, hf, hg2, rfl⟩ := goI_step hd hg
          obtain ⟨jg, jy⟩ := ok.go i W' H' d L.le.toMo hd
          refine .inr ⟨jg, fun H2 => ∃ W2, LI K M σd σ W1 H1 D W2 H2 z3 (ads ++ a), fun H2 ⟨W2, L2⟩ => ⟨iv.len - (i + 1), by omega, rfl, hlt, W2, z3, ads ++ a, r2, L2, hg2, by rw [List.append_assoc]⟩, fun x H2 y => ?_⟩
          obtain ⟨sm, rx⟩ := jy x H2 y
          have Ls : LI K M σd σ W1 H1 D W' H2 z' ads := LI.step L (Le.same sm) (L.b.sr.same sm)
          obtain ⟨σ1, iv2, z4, ha, hiv, hgo⟩ := turn2_ok hf
          refine tg_ok (ws := t.slots ++ t2.slots) t x d (wipeE σd (t.slots ++ t2.slots)) σ1 (wipe σ (t.slots ++ t2.slots)) _ (fun i hi => List.mem_append_left _ hi) (BI.wipe Ls.b _) rx ha fun σ2 b2 w2 o2 => ⟨?_, ?_⟩
          · rw [w2]
            have go : ∀ (vs : List Nat) (σ : St), wipe (wipe σ vs) vs = wipe σ vs := fun vs => by
              induction vs with
              | nil => intro σ; rfl
              | cons v vs ih =>
                intro σ
                show (wipe ((wipe σ vs).set v none) vs).set v none = (wipe σ vs).set v none
                by_cases hv : v ∈ vs
                · rw [wipe_set hv, ih]
                · have g2 : ∀ (us : List Nat) (τ : St), v ∉ us → wipe (τ.set v none) us = (wipe τ us).set v none := fun us => by
                    induction us with
                    | nil => intro τ _; rfl
                    | cons u us ih2 =>
                      intro τ hn
                      simp only [List.mem_cons, not_or] at hn
                      show (wipe (τ.set v none) us).set u none = ((wipe τ us).set u none).set v none
                      rw [ih2 τ hn.2, List.set_comm _ _ hn.1]
                  rw [g2 vs _ hv, ih, List.set_set]
            exact go _ σ
          · refine yes_of ?_
            refine iteT ?_
            have bb : BIm K (noW M) W' σ1 z' σ2 H2 := b2
            refine ⟨W', σ1, z', bb, ?_⟩
            rw [hiv]
            intro W4 H4 l4 b4 J1 ok1
            have h0 : M.H0 D = none := b1.le.none_of hD
            have ho : ¬ OwnA σ1 σ2 D := fun q => OwnA.tracked b1 hD (OwnA.wipe _ _ (o2 D q))
            have L4 : LI K (noW M) σ1 σ2 W1 H1 D W4 H4 z4 ads := by
              have Lo : LI K M σd σ W1 H1 D W4 H4 z4 ads := LI.step Ls l4 b4.sr
              exact ⟨Lo.le, b4, Lo.ex, Lo.nf, Lo.ns, Lo.nl⟩
            refine ⟨fun j k H' => k = iv2.len - j ∧ j ≤ iv2.len ∧ ∃ W' z' bds rest, LI K (noW M) σ1 σ2 W1 H1 D W' H' z' (ads ++ bds) ∧ Mo W4 H4 W' H' ∧ goI (turnI Z t2 (.bl true) e t2.slots σ1) (iv2.drop j) z' = .ok rest z3 ∧ a = bds ++ rest,
              ⟨iv2.len, by simp, Nat.zero_le _, W4, z4, [], a, by rw [List.append_nil]; exact L4, Mo.refl, by rw [goI_zero]; exact hgo, rfl⟩, ?_⟩
            rintro j k H5 ⟨rfl, hj, W5, z5, bds, rest2, L5, mo5, hg5, rfl⟩
            by_cases hlt2 : j < iv2.len
            · obtain ⟨d2, hd2⟩ := Iv.get_lt hlt2
              obtain ⟨a2, z6, r6, hf6, hg6, rfl⟩ := goI_step hd2 hg5
              obtain ⟨jg1, jy1⟩ := ok1.go j W5 H5 d2 mo5 hd2
              refine .inr ⟨jg1, fun H6 => ∃ W6, LI K (noW M) σ1 σ2 W1 H1 D W6 H6 z6 (ads ++ (bds ++ a2)) ∧ Mo W4 H4 W6 H6, fun H6 ⟨W6, L6, mo6⟩ => ⟨iv2.len - (j + 1), by omega, rfl, hlt2, W6, z6, bds ++ a2, r6, L6, mo6, hg6, by rw [List.append_assoc]⟩, fun x6 H6 y6 => ?_⟩
              obtain ⟨sm6, rx6⟩ := jy1 x6 H6 y6
              have L6 : LI K (noW M) σ1 σ2 W1 H1 D W5 H6 z5 (ads ++ bds) := LI.step L5 (Le.same sm6) (L5.b.sr.same sm6)
              have mo6 : Mo W4 H4 W5 H6 := mo5.trans (Le.same sm6).toMo
              refine turn_readM (M := noW M) he (fun i h => h) hD h0 ho (fun σ H R => tB_true (c := e)) hf6 L6 rx6 ?_ fun W7 H7 L7 m7 => ⟨W7, by rw [← List.append_assoc]; exact L7, mo6.trans m7⟩
              rw [List.length_append, List.length_append, List.length_append, List.length_append] at hlen
              rw [List.length_append, List.length_append]
              omega
            · have ej : j = iv2.len := by omega
              subst ej
              rw [goI_end] at hg5
              cases hg5
              rw [List.append_nil]
              exact .inl ⟨ok1.stop _ W5 H5 mo5 (Nat.le_refl _) (Nat.le_refl _), W5, ⟨L5.le, b1.step L5.le L5.b.sr, L5.ex, L5.nf, L5.ns, L5.nl⟩⟩
        · have e : i = iv.len := by omega
          subst e
          rw [goI_end] at hg
          cases hg
          rw [List.append_nil] at p1
          exact .inl ⟨ok.stop _ W' H' L.le.toMo (Nat.le_refl _) (Nat.le_refl _), LI.done l1 hD L p1⟩
      · exact p1.elim
  · exact p.elim
end
end EV

namespace EV
open PySem L2
section
variable {K : PySem.W.Frag} {M : Mx} {Z : Cxt} {W W' : Wd} {σd : Sg} {z : Sto} {σ : St} {H H' : Hp}
mutual
theorem Rp.wk (hL : ∃ r, W'.L = W.L ++ r) : ∀ (d : D) (v : V), (d.nol = true ∨ ∀ a, W.F a → W'.F a) → (d.nos = true ∨ ∀ a, W.s = some a → W'.s = some a) → Rp K W H v d → Rp K W' H v d
  | .non, v, _, _, h => h
  | .bl _, v, _, _, h => h
  | .int _, v, _, _, h => h
  | .str _, v, _, _, h => h
  | .tup ds, v, f, s, h => by
    obtain ⟨a, vs, e, q, r⟩ := h
    exact ⟨a, vs, e, q, Rps.wk hL ds vs (f.imp (fun e => by simpa [D.nol] using e) id) (s.imp (fun e => by simpa [D.nos] using e) id) r⟩
  | .lst ds, v, f, s, h => by
    obtain ⟨a, vs, e, g, q, r⟩ := h
    rcases f with f | f
    · simp [D.nol] at f
    · exact ⟨a, vs, e, f a g, q, Rps.wk hL ds vs (.inr f) (s.imp (fun e => by simpa [D.nos] using e) id) r⟩
  | .ext ds, v, f, s, h => by
    obtain ⟨a, e, q⟩ := h
    rcases f with f | f
    · simp [D.nol] at f
    · exact ⟨a, e, q.imp (fun ⟨g, q⟩ => ⟨f a g, q⟩) id⟩
  | .ktp _, v, _, _, h => h
  | .obj _ _, v, _, _, h => h.elim
  | .loc n, v, _, _, h => by
    obtain ⟨a, e, q⟩ := h
    refine ⟨a, e, ?_⟩
    obtain ⟨r, e2⟩ := hL
    rw [e2, List.getElem?_append_left (List.getElem?_eq_some_iff.mp q).1]
    exact q
  | .strm, v, _, s, h => by
    obtain ⟨a, e, q⟩ := h
    rcases s with s | s
    · simp [D.nos] at s
    · exact ⟨a, e, s a q⟩
theorem Rps.wk (hL : ∃ r, W'.L = W.L ++ r) : ∀ (ds : List D) (vs : List V), (D.nols ds = true ∨ ∀ a, W.F a → W'.F a) → (D.noss ds = true ∨ ∀ a, W.s = some a → W'.s = some a) → Rps K W H vs ds → Rps K W' H vs ds
  | [], [], _, _, h => trivial
  | d :: ds, v :: vs, f, s, h => ⟨Rp.wk hL d v (f.imp (fun e => by simp [D.nols] at e; exact e.1) id) (s.imp (fun e => by simp [D.noss] at e; exact e.1) id) h.1,
      Rps.wk hL ds vs (f.imp (fun e => by simp [D.nols] at e; exact e.2) id) (s.imp (fun e => by simp [D.noss] at e; exact e.2) id) h.2⟩
  | [], _ :: _, _, _, h => h.elim
  | _ :: _, [], _, _, h => h.elim
end
/-- the world that a callee gets, the world that it leaves -/
def Wd.cutS (W : Wd) (O : Addr → Prop) : Wd := { F := fun a => W.F a ∨ O a, L := W.L, s := none, S := W.S }
def Wd.back (W' : Wd) (O : Addr → Prop) (s : Option Addr) : Wd := { F := fun a => W'.F a ∧ ¬ O a, L := W'.L, s := s, S := W'.S }
/-- the same world with its first cells alone -/
def Wd.trimL (W : Wd) (n : Nat) : Wd := { W with L := W.L.take n }
mutual
theorem Rp.trim {n : Nat} : ∀ (d : D) (v : V), d.lb n = true → Rp K W H v d → Rp K (W.trimL n) H v d
  | .non, v, _, h => h
  | .bl _, v, _, h => h
  | .int _, v, _, h => h
  | .str _, v, _, h => h
  | .tup ds, v, f, h => by
    obtain ⟨a, vs, e, q, r⟩ := h
    exact ⟨a, vs, e, q, Rps.trim ds vs (by simpa [D.lb] using f) r⟩
  | .lst ds, v, f, h => by
    obtain ⟨a, vs, e, g, q, r⟩ := h
    exact ⟨a, vs, e, g, q, Rps.trim ds vs (by simpa [D.lb] using f) r⟩
  | .ext ds, v, f, h => h
  | .ktp _, v, f, h => h
  | .obj _ _, v, _, h => h.elim
  | .loc m, v, f, h => by
    obtain ⟨a, e, q⟩ := h
    refine ⟨a, e, ?_⟩
    have f : m < n := by simpa [D.lb] using f
    show (W.L.take n)[m]? = some a
    rw [List.getElem?_take_of_lt f]
    exact q
  | .strm, v, _, h => h
theorem Rps.trim {n : Nat} : ∀ (ds : List D) (vs : List V), D.lbs n ds = true → Rps K W H vs ds → Rps K (W.trimL n) H vs ds
  | [], [], _, h => trivial
  | d :: ds, v :: vs, f, h => by
    simp only [D.lbs, Bool.and_eq_true] at f
    exact ⟨Rp.trim d v f.1 h.1, Rps.trim ds vs f.2 h.2⟩
  | [], _ :: _, _, h => h.elim
  | _ :: _, [], _, h => h.elim
end
theorem Dts.trim {n : Nat} : ∀ {us : List (List Key × V)} {ks : List (List Ky × D)}, (ks.all fun p => p.2.lb n) = true → Dts K W H us ks → Dts K (W.trimL n) H us ks
  | [], [], _, _ => trivial
  | p :: us, q :: ks, f, h => by
    rw [List.all_cons, Bool.and_eq_true] at f
    exact ⟨⟨h.1.1, Rp.trim _ _ f.1 h.1.2⟩, Dts.trim f.2 h.2⟩
  | [], _ :: _, _, h => h.elim
  | _ :: _, [], _, h => h.elim
theorem Dks.trim {n : Nat} : ∀ {us : List (Key × V)} {ks : List (List Ky × D)}, (ks.all fun p => p.2.lb n) = true → Dks K W H us ks → Dks K (W.trimL n) H us ks
  | [], [], _, _ => trivial
  | p :: us, q :: ks, f, h => by
    rw [List.all_cons, Bool.and_eq_true] at f
    exact ⟨⟨h.1.1, Rp.trim _ _ f.1 h.1.2⟩, Dks.trim f.2 h.2⟩
  | [], _ :: _, _, h => h.elim
  | _ :: _, [], _, h => h.elim
theorem Ats.trim {n : Nat} : ∀ {us : List (Str × V)} {ks : List (Nat × D)}, (ks.all fun p => p.2.lb n) = true → Ats K W H us ks → Ats K (W.trimL n) H us ks
  | [], [], _, _ => trivial
  | p :: us, q :: ks, f, h => by
    rw [List.all_cons, Bool.and_eq_true] at f
    exact ⟨⟨h.1.1, Rp.trim _ _ f.1 h.1.2⟩, Ats.trim f.2 h.2⟩
  | [], _ :: _, _, h => h.elim
  | _ :: _, [], _, h => h.elim
theorem CellRp.trim {n : Nat} {a : Addr} {c : Cell} (f : c.lb n = true) (h : CellRp K W H a c) : CellRp K (W.trimL n) H a c := by
  cases c with
  | lst ds =>
    obtain ⟨vs, q, r⟩ := h
    exact ⟨vs, q, Rps.trim _ _ f r⟩
  | dct t kvs => cases t with
    | true =>
      obtain ⟨us, q, r⟩ := h
      exact ⟨us, q, Dts.trim f r⟩
    | false =>
      obtain ⟨us, q, r⟩ := h
      exact ⟨us, q, Dks.trim f r⟩
  | ins c fs =>
    obtain ⟨C, dx, us, q1, q2, r⟩ := h
    exact ⟨C, dx, us, q1, q2, Ats.trim f r⟩
theorem CsR.trim {n : Nat} : ∀ {as : List Addr} {cs : List Cell}, cs.all (Cell.lb n) = true → CsR K W H as cs → CsR K (W.trimL n) H as cs
  | [], [], _, _ => trivial
  | a :: as, c :: cs, f, h => by
    rw [List.all_cons, Bool.and_eq_true] at f
    exact ⟨h.1.trim f.1, CsR.trim f.2 h.2⟩
  | [], _ :: _, _, h => h.elim
  | _ :: _, [], _, h => h.elim
theorem lbs_ints {n : Nat} : ∀ xs : List Int, D.lbs n (xs.map D.int) = true
  | [] => rfl
  | x :: xs => by
    rw [List.map_cons, D.lbs, lbs_ints xs]; rfl
theorem SR.trim {n : Nat} {st : Option (List Int × Int × Int)} {cs : List Cell} (h : SR K W H ⟨st, cs⟩) (f : (cs.take n).all (Cell.lb n) = true) : SR K (W.trimL n) H ⟨st, cs.take n⟩ := by
  refine ⟨⟨h.ok.ft, h.ok.fs, fun a f m => h.ok.fl a f (List.mem_of_mem_take m), fun a m => h.ok.ll a (List.mem_of_mem_take m), fun a e m => h.ok.sl a e (List.mem_of_mem_take m), h.ok.nd.sublist (List.take_sublist _ _)⟩, CsR.trim f (CsR.take n h.cs), ?_⟩
  cases st with
  | none => exact h.st
  | some t =>
    obtain ⟨xs, c, n'⟩ := t
    obtain ⟨a, v, h1, h2, h3⟩ := h.st
    exact ⟨a, v, h1, h2, Rp.trim _ _ (by rw [D.lb]; exact lbs_ints xs) h3⟩
theorem Le.trim {n : Nat} (l : Le W H W' H') (hn : n = W.L.length) : Le W H (W'.trimL n) H' := by
  obtain ⟨r, e⟩ := l.l
  have et : (W'.trimL n).L = W.L := by
    show W'.L.take n = W.L
    rw [e, hn, List.take_left]
  exact ⟨⟨l.f, l.keepF, l.tups, l.frzs, ⟨[], by rw [et, List.append_nil]⟩, l.s, l.S⟩, l.fn, fun a m => .inl (by rw [← et]; exact m), l.sn, l.keep, l.kept⟩
/-- behind a call: the world with the cells that are left -/
theorem trim_ok {n : Nat} {st : Option (List Int × Int × Int)} {cs : List Cell} {d : D} (l : Le W H W' H') (hn : n = W.L.length) (sr : SR K W' H' ⟨st, cs⟩) : ∃ W2, Le W H W2 H' ∧ SR K W2 H' ⟨st, trim n d cs⟩ ∧ ∀ v, Rp K W' H' v d → Rp K W2 H' v d := by
  unfold EV.trim
  split
  · rename_i h
    rw [Bool.and_eq_true] at h
    exact ⟨W'.trimL n, l.trim hn, sr.trim h.2, fun v r => Rp.trim d v h.1 r⟩
  · exact ⟨W', l, sr, fun v r => r⟩
section
variable {W0 : Wd} {H0 : Hp} {O : Addr → Prop}
theorem Dts.wk (hL : ∃ r, W'.L = W.L ++ r) : ∀ {us : List (List Key × V)} {ks : List (List Ky × D)}, ((ks.all fun p => p.2.nol) = true ∨ ∀ a, W.F a → W'.F a) → ((ks.all fun p => p.2.nos) = true ∨ ∀ a, W.s = some a → W'.s = some a) → Dts K W H us ks → Dts K W' H us ks
  | [], [], _, _, _ => trivial
  | p :: us, q :: ks, f, s, h => by
    simp only [List.all_cons, Bool.and_eq_true] at f s
    exact ⟨⟨h.1.1, Rp.wk hL _ _ (f.imp (fun e => e.1) id) (s.imp (fun e => e.1) id) h.1.2⟩, Dts.wk hL (f.imp (fun e => e.2) id) (s.imp (fun e => e.2) id) h.2⟩
  | [], _ :: _, _, _, h => h.elim
  | _ :: _, [], _, _, h => h.elim
theorem Dks.wk (hL : ∃ r, W'.L = W.L ++ r) : ∀ {us : List (Key × V)} {ks : List (List Ky × D)}, ((ks.all fun p => p.2.nol) = true ∨ ∀ a, W.F a → W'.F a) → ((ks.all fun p => p.2.nos) = true ∨ ∀ a, W.s = some a → W'.s = some a) → Dks K W H us ks → Dks K W' H us ks
  | [], [], _, _, _ => trivial
  | p :: us, q :: ks, f, s, h => by
    simp only [List.all_cons, Bool.and_eq_true] at f s
    exact ⟨⟨h.1.1, Rp.wk hL _ _ (f.imp (fun e => e.1) id) (s.imp (fun e => e.1) id) h.1.2⟩, Dks.wk hL (f.imp (fun e => e.2) id) (s.imp (fun e => e.2) id) h.2⟩
  | [], _ :: _, _, _, h => h.elim
  | _ :: _, [], _, _, h => h.elim
theorem Ats.wk (hL : ∃ r, W'.L = W.L ++ r) (hS : W'.S = W.S) : ∀ {us : List (Str × V)} {ks : List (Nat × D)}, ((ks.all fun p => p.2.nol) = true ∨ ∀ a, W.F a → W'.F a) → ((ks.all fun p => p.2.nos) = true ∨ ∀ a, W.s = some a → W'.s = some a) → Ats K W H us ks → Ats K W' H us ks
  | [], [], _, _, _ => trivial
  | p :: us, q :: ks, f, s, h => by
    simp only [List.all_cons, Bool.and_eq_true] at f s
    exact ⟨⟨by rw [hS]; exact h.1.1, Rp.wk hL _ _ (f.imp (fun e => e.1) id) (s.imp (fun e => e.1) id) h.1.2⟩, Ats.wk hL hS (f.imp (fun e => e.2) id) (s.imp (fun e => e.2) id) h.2⟩
  | [], _ :: _, _, _, h => h.elim
  | _ :: _, [], _, _, h => h.elim
theorem CsR.wk (hL : ∃ r, W'.L = W.L ++ r) (hS : W'.S = W.S) : ∀ {as : List Addr} {cs : List Cell}, (cs.all Cell.nol = true ∨ ∀ a, W.F a → W'.F a) → (cs.all Cell.nos = true ∨ ∀ a, W.s = some a → W'.s = some a) → CsR K W H as cs → CsR K W' H as cs
  | [], [], _, _, _ => trivial
  | a :: as, c :: cs, f, s, h => by
    simp only [List.all_cons, Bool.and_eq_true] at f s
    refine ⟨?_, CsR.wk hL hS (f.imp (fun e => e.2) id) (s.imp (fun e => e.2) id) h.2⟩
    have f := f.imp (fun e => e.1) id
    have s := s.imp (fun e => e.1) id
    have h := h.1
    cases c with
    | lst ds =>
      obtain ⟨vs, q, r⟩ := h
      exact ⟨vs, q, Rps.wk hL _ _ f s r⟩
    | dct t kvs => cases t with
      | true =>
        obtain ⟨us, q, r⟩ := h
        exact ⟨us, q, Dts.wk hL f s r⟩
      | false =>
        obtain ⟨us, q, r⟩ := h
        exact ⟨us, q, Dks.wk hL f s r⟩
    | ins c fs =>
      obtain ⟨C, dx, us, q1, q2, r⟩ := h
      exact ⟨C, dx, us, by rw [hS]; exact q1, q2, Ats.wk hL hS f s r⟩
  | [], _ :: _, _, _, h => h.elim
  | _ :: _, [], _, _, h => h.elim
theorem SR.cutN (b : BI K W0 H0 W σd z σ H) (hO : ∀ a, O a → OwnA σd σ a) (hs : z.cs.all Cell.nos = true ∨ W.s = none) : SR K (W.cutS O) H ⟨none, z.cs⟩ := by
  refine ⟨⟨fun a f => ?_, fun a f => ?_, fun a f => ?_, b.sr.ok.ll, fun a e => (fun m => nomatch e), b.sr.ok.nd⟩, CsR.wk (W := W) (W' := W.cutS O) ⟨[], by simp [Wd.cutS]⟩ rfl (.inr fun a f => .inl f) (hs.imp id fun e a q => by rw [e] at q; cases q) b.sr.cs, rfl⟩
  · rcases f with f | f
    · exact b.sr.ok.ft a f
    · obtain ⟨_, _, e, _⟩ := b.own (hO a f)
      exact ⟨_, e⟩
  · exact fun e => nomatch e
  · rcases f with f | f
    · exact b.sr.ok.fl a f
    · obtain ⟨_, _, _, _, _, _, h, _⟩ := b.own (hO a f)
      exact h
theorem Le.back (b : BI K W0 H0 W σd z σ H) (hO : ∀ a, O a → OwnA σd σ a) (l : Le (W.cutS O) H W' H') : Le W H (W'.back O W.s) H' := by
  have nO : ∀ a, W.F a → ¬ O a := fun a f o => by
    obtain ⟨_, _, _, _, h, _⟩ := b.own (hO a o)
    exact h f
  refine ⟨⟨fun a f => ⟨l.f a (.inl f), nO a f⟩, fun a o f e => l.keepF a o (.inl f) e, l.tups, l.frzs, l.l, fun a e => e, l.S⟩, fun a f => ?_, l.ln, fun a e => .inl e, fun a o e hl hs => l.keep a o e hl (fun e => nomatch e), l.kept⟩
  rcases l.fn a f.1 with (h | h) | h
  · exact .inl h
  · exact absurd h f.2
  · exact .inr h
theorem SR.back {z' : Sto} (b : BI K W0 H0 W σd z σ H) (hO : ∀ a, O a → OwnA σd σ a) (l : Le (W.cutS O) H W' H') (sr : SR K W' H' z') (hn : z'.st = none) (hl : z'.cs.all Cell.nol = true ∨ ∀ a, ¬ O a) : SR K (W'.back O W.s) H' ⟨z.st, z'.cs⟩ := by
  have l2 := Le.back b hO l
  have sn : W'.s = none := by
    have := sr.st
    rw [hn] at this
    exact this
  refine ⟨⟨fun a f => sr.ok.ft a f.1, fun a f e => ?_, fun a f => sr.ok.fl a f.1, sr.ok.ll, fun a e m => ?_, sr.ok.nd⟩, CsR.wk (W := W') (W' := W'.back O W.s) ⟨[], by simp [Wd.back]⟩ rfl (hl.imp id fun h a f => ⟨f, h a⟩) (.inr fun a e => by rw [sn] at e; cases e) sr.cs, ?_⟩
  · rcases l.fn a f.1 with (h | h) | h
    · exact b.sr.ok.fs a h e
    · exact f.2 h
    · obtain ⟨o, q⟩ := b.sr.sf e
      rw [h] at q; cases q
  · have e : W.s = some a := e
    have m : a ∈ W'.L := m
    rcases l.ln a m with h | h
    · exact b.sr.ok.sl a e h
    · obtain ⟨o, q⟩ := b.sr.sf e
      rw [h] at q; cases q
  · have q := b.sr.st
    show match z.st with
      | none => W.s = none
      | some (xs, c, n) => ∃ a v, W.s = some a ∧ H' a = some (.lst [v, .int c, .int n]) ∧ Rp K (W'.back O W.s) H' v (.lst (xs.map D.int))
    cases e : z.st with
    | none => rw [e] at q; exact q
    | some p =>
      obtain ⟨xs, c, n⟩ := p
      rw [e] at q
      obtain ⟨a, v, h1, h2, h3⟩ := q
      exact ⟨a, v, h1, l.keep a _ h2 (b.sr.ok.sl a h1) (fun e => nomatch e), Rp.mo l2.toMo _ _ h3⟩
end
/-! ### calls -/
def spF (K : PySem.W.Frag) (S : Stat) (cl : Nat → List D → Sto → Res D) (xr : Xn → Value → Option Addr → Hp → Prop) (f : Nat) : Sp := fun vs H Q E => ∃ W ds z, W.S = S ∧ SR K W H z ∧ Rps K W H vs ds ∧ match cl f ds z with
  | .ok d z' => ∀ v W' H', Le W H W' H' → SR K W' H' z' → Rp K W' H' v d → Q v H'
  | .exn x z' => ∀ c dd W' H', Le W H W' H' → SR K W' H' z' → xr x c dd H' → E c dd H'
  | .err => False
theorem call_frame {f : Nat} {vs : List V} {ds : List D} {O : Addr → Prop} {Q : VK} {hb : Bool} {r : Res D} (b : BIm K M W σd z σ H) (hO : ∀ a, O a → OwnA σd σ a) (hn : hb = true ∨ ∀ a, ¬ O a) (hs : z.cs.all Cell.nos = true ∨ W.s = none)
    (rv : Rps K (W.cutS O) H vs ds) (hr : r = match Z.cl f ds ⟨none, z.cs⟩ with
      | .ok d z' => if ((d.nol && z'.cs.all Cell.nol) || !hb) && z'.st.isNone then .ok d ⟨z.st, EV.trim z.cs.length d z'.cs⟩ else .err
      | .exn x z' => if (z'.cs.all Cell.nol || !hb) && z'.st.isNone then .exn x ⟨z.st, EV.trim z.cs.length (.tup x.ds) z'.cs⟩ else .err
      | .err => .err)
    (p : Post K M W σd σ H r fun d _ W' H' => ∀ v, Rp K W' H' v d → Q v H') : spF K M.W0.S Z.cl M.xr f vs H Q (WE M.wx σ) := by
  subst hr
  have hlen : z.cs.length = W.L.length := b.sr.cs.len.symm
  refine ⟨W.cutS O, ds, ⟨none, z.cs⟩, b.le.S, SR.cutN b hO hs, rv, ?_⟩
  cases e : Z.cl f ds ⟨none, z.cs⟩ with
  | err => rw [e] at p; exact p.elim
  | ok d z' =>
    rw [e] at p
    dsimp only at p ⊢
    split at p
    · rename_i hc
      simp only [Bool.and_eq_true, Bool.or_eq_true, Bool.not_eq_true', Option.isNone_iff_eq_none] at hc
      intro v W' H' l sr r
      have l2 := Le.back b hO l
      have hl : z'.cs.all Cell.nol = true ∨ ∀ a, ¬ O a := by
        rcases hc.1 with h | h
        · exact .inl h.2
        · rcases hn with hn | hn
          · rw [h] at hn; cases hn
          · exact .inr hn
      obtain ⟨W2, l3, sr3, k3⟩ := trim_ok (d := d) l2 hlen (SR.back b hO l sr hc.2 hl)
      refine p _ _ l3 (b.step l3 sr3) v (k3 v (Rp.wk (W := W') (W' := W'.back O W.s) ⟨[], by simp [Wd.back]⟩ d v ?_ (.inr fun a e => ?_) r))
      · rcases hc.1 with h | h
        · exact .inl h.1
        · rcases hn with hn | hn
          · rw [h] at hn; cases hn
          · exact .inr fun a f => ⟨f, hn a⟩
      · have := sr.st
        rw [hc.2] at this
        rw [this] at e; cases e
    · exact p.elim
  | exn x z' =>
    rw [e] at p
    dsimp only at p ⊢
    split at p
    · rename_i hc
      simp only [Bool.and_eq_true, Bool.or_eq_true, Bool.not_eq_true', Option.isNone_iff_eq_none] at hc
      intro c dd W' H' l sr r
      have l2 := Le.back b hO l
      have hl : z'.cs.all Cell.nol = true ∨ ∀ a, ¬ O a := by
        rcases hc.1 with h | h
        · exact .inl h
        · rcases hn with hn | hn
          · rw [h] at hn; cases hn
          · exact .inr hn
      obtain ⟨W2, l3, sr3, k3⟩ := trim_ok (d := .tup x.ds) l2 hlen (SR.back b hO l sr hc.2 hl)
      exact p c dd _ _ l3 (b.step l3 sr3) r
    · exact p.elim
theorem RpsO.cut : ∀ {vs : List V} {ds : List D}, (D.noss ds = true ∨ W.s = none) → RpsO K W σd σ H vs ds → Rps K (W.cutS (OwnA σd σ)) H vs ds
  | [], [], _, _ => trivial
  | v :: vs, d :: ds, h, r => by
    refine ⟨?_, RpsO.cut (h.imp (fun e => by simp [D.noss] at e; exact e.2) id) r.2⟩
    have r1 : Rp K (W.plus σd σ) H v d := RpO.plus r.1
    refine Rp.wk (W := W.plus σd σ) (W' := W.cutS (OwnA σd σ)) ⟨[], by simp [Wd.cutS, Wd.plus]⟩ d v (.inr fun a f => f) (h.imp (fun e => by simp [D.noss] at e; exact e.1) fun e a q => ?_) r1
    have q : W.s = some a := q
    rw [e] at q; cases q
  | [], _ :: _, _, h => h.elim
  | _ :: _, [], _, h => h.elim
theorem call_sp {f : Nat} {cs : Cs} {vs : List V} {ds : List D} {Q : VK} (b : BIm K M W σd z σ H) (r : Rpsx K cs W σd σ H vs ds)
    (p : Post K M W σd σ H (callE (Z.cl f ds) (hasBor cs) ds z) fun d _ W' H' => ∀ v, Rp K W' H' v d → Q v H') : spF K M.W0.S Z.cl M.xr f vs H Q (WE M.wx σ) := by
  have none_of : z.st = none → W.s = none := fun e => by
    have := b.sr.st
    rw [e] at this; exact this
  unfold callE at p
  split at p
  · rename_i h
    simp only [Bool.and_eq_true] at h
    cases hb : hasBor cs with
    | true =>
      refine call_frame (O := OwnA σd σ) (hb := true) b (fun a h => h) (.inl rfl) (.inl h.2.2) ?_ rfl (by rw [hb] at p; exact p)
      unfold Rpsx at r
      rw [hb, if_pos rfl] at r
      exact RpsO.cut (.inl h.1) r
    | false =>
      refine call_frame (O := fun _ => False) (hb := false) b (fun a h => h.elim) (.inr fun a h => h) (.inl h.2.2) ?_ rfl (by rw [hb] at p; exact p)
      exact Rps.wk (W := W) (W' := W.cutS fun _ => False) ⟨[], by simp [Wd.cutS]⟩ ds vs (.inr fun a f => .inl f) (.inl h.1) ((Rpsx_no hb).mp r)
  · split at p
    · rename_i hb
      split at p
      · exact p.elim
      · rename_i h
        have e : z.st = none := by
          cases q : z.st with
          | none => rfl
          | some _ => rw [q] at h; simp at h
        unfold Rpsx at r
        rw [hb, if_pos rfl] at r
        refine call_frame (O := OwnA σd σ) (hb := true) b (fun a h => h) (.inl rfl) (.inr (none_of e)) (RpsO.cut (.inr (none_of e)) r) rfl ?_
        have ez : z = ⟨none, z.cs⟩ := by rw [← e]
        rw [← ez]
        simp only [Bool.not_true, Bool.or_false]
        exact p
    · rename_i hb
      have hb : hasBor cs = false := by simpa using hb
      refine ⟨W, ds, z, b.le.S, b.sr, (Rpsx_no hb).mp r, ?_⟩
      have hlen : z.cs.length = W.L.length := b.sr.cs.len.symm
      split at p
      · cases q : Z.cl f ds z with
        | err => rw [q] at p; exact p.elim
        | ok d z' =>
          rw [q] at p
          intro v W' H' l sr r
          obtain ⟨W2, l3, sr3, k3⟩ := trim_ok (d := d) l hlen sr
          exact p W2 H' l3 (b.step l3 sr3) v (k3 v r)
        | exn x z' =>
          rw [q] at p
          intro c dd W' H' l sr r
          obtain ⟨W2, l3, sr3, k3⟩ := trim_ok (d := .tup x.ds) l hlen sr
          exact p c dd W2 H' l3 (b.step l3 sr3) r
      · cases q : Z.cl f ds z with
        | err => rw [q] at p; exact p.elim
        | ok d z' =>
          rw [q] at p
          exact fun v W' H' l sr r => p W' H' l (b.step l sr) v r
        | exn x z' =>
          rw [q] at p
          exact fun c dd W' H' l sr r => p c dd W' H' l (b.step l sr) r
structure FnAt (X : Cx) (M : Mx) (Z : Cxt) (f : Nat) (x : Str) : Prop where
  ex : ∃ k adr fd ps, FnOk X.prog X.w X.K X.mg X.base (L2.CX X.prog X.w) k adr fd ps (spF X.K M.W0.S Z.cl M.xr f) ∧ Room k X.A ∧ X.mg x = some (.ref adr) ∧ PySem.W.keepIn X.K (.ref adr) = true ∧ Binds X.K fd ps []
theorem sE_call {X : Cx} {f : Nat} {x : Str} {p pos : PySem.Pos} {e : PySem.Expr} {es : List PySem.Expr} {cs : Cs} (F : FnAt X M Z f x) (tk : Takes X M.wx) (hg : Gl X x) (hdb : (x == ("__debug__" : Str)) = false) (hs : ∀ e' ∈ e :: es, nostar e' = true) (ha : PA X (e :: es) (tEs X.K M Z cs)) :
    PE X (.Call (.Name x p) (e :: es) [] pos) (tE X.K M Z (.call f cs)) := by
  obtain ⟨k, adr, fd, ps, F, hr, hm, hk, hb⟩ := F.ex
  have h1 : starEach (e :: es) X.env = (false, eval e X.env) :: starEach es X.env := star_no (hs e List.mem_cons_self) _ _
  have h2 : (backTo pos (starEach es X.env)).any (·.1) = false := plain_args (fun e' he => hs e' (List.mem_cons_of_mem _ he)) pos X.env
  refine (pe_callS F hr hg hm hk hb (fun σ => passAt tk σ) ha hdb h1 h2).evi fun σ H Q h => ?_
  obtain ⟨W, σd, z, b, p⟩ := h
  refine ⟨W, σd, z, b, (Post.of_bind p).mono fun ds z1 W1 H1 l1 b1 p1 vs r => ?_⟩
  exact call_sp b1 r (p1.mono fun d z2 W2 H2 l2 b2 q v rv => q v ((Rpx_no rfl).mpr rv))
theorem sE_call0 {X : Cx} {f : Nat} {x : Str} {p pos : PySem.Pos} (F : FnAt X M Z f x) (tk : Takes X M.wx) (hg : Gl X x) (hdb : (x == ("__debug__" : Str)) = false) :
    PE X (.Call (.Name x p) [] [] pos) (tE X.K M Z (.call f .nil)) := by
  obtain ⟨k, adr, fd, ps, F, hr, hm, hk, hb⟩ := F.ex
  refine ⟨fun pins s σ H Q I h => ?_⟩
  obtain ⟨W, σd, z, b, p⟩ := h
  refine wpAny_Call_Name_kw (ld_glob I hg hm ?_ hdb)
  have sp : spF X.K M.W0.S Z.cl M.xr f [] H Q (WE M.wx σ) := call_sp (cs := .nil) (ds := []) b trivial (Post.mono (show Post X.K M W σd σ H (callE (Z.cl f []) (hasBor .nil) [] z) _ from p) fun d z2 W2 H2 l2 b2 q v rv => q v ((Rpx_no rfl).mpr rv))
  exact PySem.W.callWith_K0 I.kIn hk (run_fnS (us := []) F hr hb (passAt tk σ) I .nil sp)
end
/-! ### classes, attributes -/
structure AttAt (X : Cx) (M : Mx) (c k : Nat) (f : Str) : Prop where
  ex : ∃ C, M.W0.S.cl c = some C ∧ Cls X.K C ∧ NoAttr X.K C f ∧ M.W0.S.nm k = some f
structure MethAt (X : Cx) (M : Mx) (Z : Cxt) (c f : Nat) (m : Str) : Prop where
  ex : ∃ C k adr fd ps, M.W0.S.cl c = some C ∧ Cls X.K C ∧ Meth X.K C m adr ∧ FnOk X.prog X.w X.K X.mg X.base (L2.CX X.prog X.w) k adr fd ps (spF X.K M.W0.S Z.cl M.xr f) ∧ Room k X.A ∧ Binds X.K fd ps [] ∧ ∀ j, M.W0.S.nm j ≠ some m
structure MakeAt (X : Cx) (M : Mx) (Z : Cxt) (c f : Nat) (x : Str) : Prop where
  ex : ∃ C k adr fd ps, M.W0.S.cl c = some C ∧ X.mg x = some (.ref C) ∧ Mk X.K C adr ∧ FnOk X.prog X.w X.K X.mg X.base (L2.CX X.prog X.w) k adr fd ps (spF X.K M.W0.S Z.cl M.xr f) ∧ Room (k + 1) X.A ∧ Binds X.K fd ps []
end EV

namespace L2
open PySem PySem.Spec PyProof.Rows
/-! ### several named except clauses -/
abbrev Sut := Addr → Value → Option Addr → TS
/-- behind a named suite its slot is empty -/
def offEnds (i : Nat) (D : Ends) : Ends := { nx := fun σ H => D.nx (σ.set i none) H, rt := D.rt, bk := fun σ H => D.bk (σ.set i none) H, ct := fun σ H => D.ct (σ.set i none) H }
def wNamed (K : PySem.W.Frag) (Wo : WX) (D : Ends) : List (Value × Nat × Sut) → WX
  | [] => Wo
  | p :: r => fun cls d σ H => ∃ k, PySem.W.exmOne K cls p.1 = some k ∧ (k = true → ∀ ea, H ea = none → p.2.2 ea cls d (offEnds p.2.1 D) (σ.set p.2.1 (some (.ref ea))) H) ∧ (k = false → wNamed K Wo D r cls d σ H)
inductive Named (X : Cx) : List ExceptHandler → List (Value × Nat × Sut) → Prop
  | nil : Named X [] []
  | cons {y n : Str} {c : Value} {i : Nat} {su : Sut} {st0 : Stmt} {sts : List Stmt} {py ph : Pos} {hs : List ExceptHandler} {l : List (Value × Nat × Sut)} (nc : Names X y c) (ni : X.N[i]? = some n) (nl : X.env.kindOf n = some .local)
      (ok : ∀ (ea : Addr) (ob : Obj) (cls : Value) (d : Option Addr) (ps : List (Addr × Obj)), Zc cls d ob → (∃ fs, ob.data = .fields fs) → PSs (X.suite ea ((ea, ob) :: ps)) (st0 :: sts) (su ea cls d)) (r : Named X hs l) :
      Named X (.ExceptHandler (some (.Name y py)) (some n) (st0 :: sts) ph :: hs) ((c, i, su) :: l)
section
variable {X : Cx} {Wo : WX} {pins : List (Addr × Obj)} {σ : St} {H : Hp} {D : Ends} {ea : Addr} {cls : Value} {dd : Option Addr} {B hp : Heap} {sB sE : Shared}
/-- an exception that has come down to this frame: sB the state without it, sE the state with it but for its heap -/
structure Down (X : Cx) (pins : List (Addr × Obj)) (σ : St) (H : Hp) (ea : Addr) (cls : Value) (dd : Option Addr) (B hp : Heap) (sB sE : Shared) : Prop where
  I : Inv X pins σ H sB
  old : ∀ b o, sB.heap.get? b = some o → b ∉ frs X.stack → B.get? b = some o
  up : sB.heap.UpToSlots hp
  fl : HandSPX.FlyingZ B (X.env :: X.outer) ea (Zc cls dd) hp
  na : H ea = none
  os : sE.os = sB.os
  ag : AllBare sE.gens
theorem Down.inv (w : Down X pins σ H ea cls dd B hp sB sE) : Inv X pins σ H { sE with heap := hp } := w.I.landed w.old w.fl.1 w.up w.os w.ag
/-- its object stands apart from the frames -/
theorem Down.apart (w : Down X pins σ H ea cls dd B hp sB sE) (hf : X.env.frame = some X.env.locals) : ∃ ob fs, hp.get? ea = some ob ∧ Zc cls dd ob ∧ ob.data = .fields fs ∧ ea ≠ X.env.locals ∧ ea ∉ X.fs := by
  obtain ⟨ob, fs, h1, h2, h3⟩ := w.fl.there
  have out : ea ∉ frs (X.env :: X.outer) := fun m => by
    obtain ⟨_, ob', h4, h5⟩ := w.fl.2.2.1.mem m
    rw [h1] at h4
    cases h4
    exact h5 _ h3
  refine ⟨ob, fs, h1, h2, h3, fun z => out ?_, fun m => out ?_⟩
  · refine List.mem_filterMap.mpr ⟨X.env, List.mem_cons_self, ?_⟩
    rw [hf, z]
  · obtain ⟨v, hv, e⟩ := List.mem_filterMap.mp m
    exact List.mem_filterMap.mpr ⟨v, List.mem_cons_of_mem _ hv, e⟩
/-- no clause takes it: it goes on -/
theorem Down.pass (w : Down X pins σ H ea cls dd B hp sB sE) (hs : X.stack = X.env :: X.outer) (hf : X.env.frame = some X.env.locals) (tk : Takes X Wo) (q : Wo cls dd σ H) :
    wpAny (model X.prog X.w) X.A (handleBy (.ref ea) X.env []) (SP X pins D) X.xe { sE with heap := hp } := by
  refine wpAny_handleBy_nil ?_
  obtain ⟨_, _, _, ob, fs, T, _, _, h1, _, h2, h3, _⟩ := id w.fl
  unfold PySem.passOn
  refine wpAny_bind (wpAny_field h1 h2 h3 ?_)
  rw [if_neg (show ¬ ((Value.ref T == Value.none) = true) from fun z => by simp at z)]
  have go : wpAny (model X.prog X.w) X.A (setFlight (.ref ea) X.env.frame) (fun _ sG => wpAny (model X.prog X.w) X.A (throw (.ref ea) : Sem Flow) (SP X pins D) X.xe sG) X.xe { sE with heap := hp } := by
    rw [hf]
    refine HandSPX.setFlight_upZ w.fl fun hG held upG => wpAny_throw (tk _ _ ?_)
    refine ⟨ea, B, sB, pins, σ, H, cls, dd, rfl, w.I, w.old, w.up.trans upG, .inr (.inr ?_), w.na, w.os, w.ag, q⟩
    rw [hs]
    exact held
  first
    | exact wpAny_bind go
    | exact wpAny_bind (wpAny_pure (wpAny_bind go))
theorem Down.by_ {hs : List ExceptHandler} {l : List (Value × Nat × Sut)} (n : Named X hs l) (hst : X.stack = X.env :: X.outer) (hf : X.env.frame = some X.env.locals) (nd : X.N.Nodup) (tk : Takes X Wo) :
    Down X pins σ H ea cls dd B hp sB sE → wNamed X.K Wo D l cls dd σ H → wpAny (model X.prog X.w) X.A (handleBy (.ref ea) X.env hs) (SP X pins D) X.xe { sE with heap := hp } := by
  induction n with
  | nil => exact fun w q => w.pass hst hf tk q
  | @cons y n c i su st0 sts py ph hs l nc ni nl ok r ih =>
    intro w q
    obtain ⟨k, e1, qy, qn⟩ := q
    obtain ⟨ob, fs, h1, h2, h3, ne, nf⟩ := w.apart hf
    have J := w.inv
    have JS := J.suite h1 h3 w.na ne nf
    refine wpAny_handleBy_cons (codeAny_handlers_test ?_) (fun z => by cases z)
    have ty : PySem.W.Looks (model X.prog X.w) hp (typeOf (.ref ea)) cls := fun _ _ _ _ kp q0 => wpAny_typeOf_ref (kp _ _ h1) (by rw [h2.1]; exact q0)
    have look := PySem.W.exm_one (M := model X.prog X.w) J.kIn ty e1
    have name : ∀ {P P' : Value → Shared → Prop}, P c { sE with heap := hp } → wpAny (model X.prog X.w) (X.A.mark (some (.ref ea))) (eval (.Name y py) X.env) P P' { sE with heap := hp } := fun {P P'} q0 => by
      obtain ⟨g1, g2, g3⟩ := nc
      rcases g3 with g3 | ⟨g3, g4, g5⟩
      · exact ld_glob (X := X.suite ea ((ea, ob) :: (X.pn ++ pins))) JS g1 g3 q0 g2
      · exact ld_blt (X := X.suite ea ((ea, ob) :: (X.pn ++ pins))) JS g1 g3 g4 q0 g5 g2
    refine name (look.here ?_)
    cases k with
    | false => exact ih w (qn rfl)
    | true =>
      refine codeAny_handlers_suite_as (HandSPX.lands_againZ w.fl fun hG flG upG => ?_)
      have w2 : Down X pins σ H ea cls dd B hG sB sE := ⟨w.I, w.old, w.up.trans upG, flG, w.na, w.os, w.ag⟩
      obtain ⟨ob2, fs2, g1, g2, g3, _, _⟩ := w2.apart hf
      have JT := w2.inv.suite g1 g3 w.na ne nf
      refine store_ok (X := X.suite ea ((ea, ob2) :: (X.pn ++ pins))) (v := .ref ea) JT nd ni (.inl nl) rfl (fun sF JF => ?_) (.inr nl)
      refine wpAny_mono ((ok ea ob2 cls dd (X.pn ++ pins) g2 ⟨_, g3⟩).run [] sF _ H _ JF (qy rfl ea w.na)) (fun f sG q0 => ?_) (fun _ _ z => z.elim)
      have gone : ∀ {σG : St} {HG : Hp} {P : Shared → Prop}, Inv (X.suite ea ((ea, ob2) :: (X.pn ++ pins))) [] σG HG sG → (∀ sZ, Inv X pins (σG.set i none) HG sZ → P sZ) →
          wpAny (model X.prog X.w) X.A (do bindName X.env n .none; unbindBehindTheSuite X.env n ph) (fun _ sZ => P sZ) X.xe sG := fun {σG HG P} JG p0 => gone_ok (JG.unsuite J.ok) nd ni nl p0
      cases f with
      | next => obtain ⟨σG, HG, JG, p0⟩ := q0; exact gone JG fun _ JZ => ⟨_, _, JZ, p0⟩
      | brk => obtain ⟨σG, HG, JG, p0⟩ := q0; exact gone JG fun _ JZ => ⟨_, _, JZ, p0⟩
      | cont => obtain ⟨σG, HG, JG, p0⟩ := q0; exact gone JG fun _ JZ => ⟨_, _, JZ, p0⟩
      | ret u => obtain ⟨vG, σG, HG, JG, rG, p0⟩ := q0; exact gone JG fun _ JZ => ⟨_, _, _, JZ, rG, p0⟩
/-- try: body, except X as n: .., except Y as m: .. -/
theorem ps_try_named {body : List Stmt} {h0 : ExceptHandler} {hs : List ExceptHandler} {l : List (Value × Nat × Sut)} {pos : Pos} {tb : WX → TS} (hst : X.stack = X.env :: X.outer) (hf : X.env.frame = some X.env.locals) (nd : X.N.Nodup) (tk : Takes X Wo)
    (hb : ∀ (W : WX) (ps : List (Addr × Obj)) (xe : Value → Shared → Prop), Takes (X.tr ps xe) W → PassesOwn (model X.prog X.w) X.A X.env xe → PSs (X.tr ps xe) body (tb W)) (nm : Named X (h0 :: hs) l) :
    PS X (.Try body (h0 :: hs) [] [] pos) (fun D σ H => tb (wNamed X.K Wo D l) D σ H) := by
  refine ⟨fun pins s σ H D I q => wpAny_Try_except ?_⟩
  have fr : X.A.frames = some (X.env :: X.outer) := by rw [I.ok.frames, hst]
  have xe0 : ∀ u s', XE (X.tr (X.pn ++ pins) fun e s1 => wpAny (model X.prog X.w) X.A (noteFrame e X.env) (fun _ s2 => wpAny (model X.prog X.w) X.A (setFlight e none) (fun _ s3 => wpAny (model X.prog X.w) X.A (handleBy e X.env (h0 :: hs)) (SP X pins D) X.xe s3) X.xe s2) X.xe s1) (wNamed X.K Wo D l) u s' →
      wpAny (model X.prog X.w) X.A (noteFrame u X.env) (fun _ s2 => wpAny (model X.prog X.w) X.A (setFlight u none) (fun _ s3 => wpAny (model X.prog X.w) X.A (handleBy u X.env (h0 :: hs)) (SP X pins D) X.xe s3) X.xe s2) X.xe s' := fun u s' xx => by
    obtain ⟨ea, B, sB, _, σ1, H1, cls, dd, rfl, J1, old, up, sky, na, os, ag, w⟩ := xx
    have sky1 : Sky B (X.env :: X.outer) ea (Zc cls dd) X.env.locals s'.heap := by rw [← hst]; exact sky
    refine Sky.land Zc.steady fr hf sky1 fun hG flG upG => ?_
    exact Down.by_ nm hst hf nd tk ⟨J1.ofTry I.ok, old, up.trans upG, flG, na, os, ag⟩ w
  refine wpAny_mono ((hb _ _ _ xe0 PassesOwn.looking).run [] s σ H D (I.toTry _) q) (fun f s1 q0 => ?_) (fun _ _ z => z)
  cases f with
  | next => obtain ⟨σ1, H1, J1, p0⟩ := q0; exact wpAny_execs_nil ⟨σ1, H1, J1.ofTry I.ok, p0⟩
  | brk => obtain ⟨σ1, H1, J1, p0⟩ := q0; exact ⟨σ1, H1, J1.ofTry I.ok, p0⟩
  | cont => obtain ⟨σ1, H1, J1, p0⟩ := q0; exact ⟨σ1, H1, J1.ofTry I.ok, p0⟩
  | ret u => obtain ⟨v1, σ1, H1, J1, r1, p0⟩ := q0; exact ⟨v1, σ1, H1, J1.ofTry I.ok, r1, p0⟩
end
end L2

namespace EV
open PySem L2
def dropDoc : List PySem.Stmt → List PySem.Stmt
  | .Expr (.Constant (.str _) _ _) _ :: rest => dropDoc rest
  | l => l
theorem dropD_ok {X : Cx} {t : TS} : ∀ (l : List PySem.Stmt), PSs X (dropDoc l) t → PSs X l t := fun l => by
  induction l with
  | nil => exact fun h => h
  | cons st rest ih =>
    unfold dropDoc
    split
    · rename_i heq
      cases heq
      exact fun h => (pss_cons ps_doc (ih h)).evi fun _ _ _ q => q
    · exact fun h => h
/-! ### own exception classes -/
def oexB (K : PySem.W.Frag) (C : Addr) : Bool := (match K.lookup C with
  | some ⟨.type "type", _, .cls cd, sl⟩ => (match cd.mro, sl.toList with
    | .ref C' :: bm, [_, _, _, _, some (.builtin n), _] => C' == C && n == "ValueError.__new__" && cd.hasDict && !cd.hasDel && PySem.HandSPX.refsVE bm
    | _, _ => false)
  | _ => false) && (decide (PySem.W.findIn K (.ref C) "__setattr__" = some (some (.builtin "object.__setattr__"))) && (decide (PySem.W.subIn K (.ref C) (.type "BaseException") = some true) && (decide (PySem.W.typeIn K (.ref C) = some (.type "type")) && PySem.W.keepIn K (.ref C))))
theorem oexB_ok {K : PySem.W.Frag} {C : Addr} (h : oexB K C = true) : OexC K C := by
  unfold oexB at h
  simp only [Bool.and_eq_true, decide_eq_true_eq] at h
  obtain ⟨q, h1, h2, h3, h4⟩ := h
  refine ⟨?_, h1, h2, h3, h4⟩
  split at q
  · rename_i dd cd sl ho
    split at q
    · rename_i C' bm k0 k1 k2 k3 n k5 hm hs
      simp only [Bool.and_eq_true, beq_iff_eq, Bool.not_eq_true'] at q
      obtain ⟨⟨⟨⟨rfl, rfl⟩, hd⟩, hdel⟩, hr⟩ := q
      obtain ⟨nm, bs, mro, ns, qn, hd, sn, sub, ab, col, del⟩ := cd
      dsimp only at hm hdel hd
      subst hm hdel hd
      have hsl : sl = #[k0, k1, k2, k3, some (.builtin "ValueError.__new__"), k5] := by
        obtain ⟨l⟩ := sl
        simp only at hs
        rw [hs]
      subst hsl
      exact ⟨nm, qn, ns, bs, bm, sn, sub, ab, col, dd, k0, k1, k2, k3, k5, ho, hr⟩
    · cases q
  · cases q
/-- what an exception's __init__ promises: its fields stand in its dict -/
def spI (K : PySem.W.Frag) (C : Addr) (ns : List Str) : Sp := fun vs H Q _ => ∃ (a : Addr) (ws : List V), vs = .ref a :: ws ∧ ws.length = ns.length ∧ H a = some (exo a C none) ∧
  ∀ d, H d = none → d ≠ a → Q .non (upd (upd H d (exd d (ns.zip ws).reverse)) a (exo a C (some d)))
def okN (x : Str) : Bool := !(x == ("__debug__" : Str)) && !(x == ("__classdict__" : Str))
/-- self.f = f, ..: the fields in their order -/
def iniB (N : List Str) (sc : PySem.Scope) : Nat → List Str → List PySem.Stmt → Bool
  | _, [], [] => true
  | i, f :: fs, .Assign [.Attribute (.Name x _) g _] (.Name y _) _ :: r => decide (N[0]? = some x) && decide (N[i]? = some y) && decide (f = g) && visB sc x && visB sc y && okN x && okN y && iniB N sc (i + 1) fs r
  | _, _, _ => false
theorem okN_2 {x : Str} (h : okN x = true) : (x == ("__debug__" : Str)) = false ∧ (x == ("__classdict__" : Str)) = false := by
  unfold okN at h
  simp only [Bool.and_eq_true, Bool.not_eq_true'] at h
  exact h
theorem upd_id {H : Hp} {d : Addr} {o : HO} (h : H d = some o) : upd H d o = H := by
  funext b
  by_cases e : b = d
  · subst e; rw [upd_same, h]
  · rw [upd_ne e]
theorem upd_upd {H : Hp} {d a : Addr} {o1 o2 o3 : HO} (ne : d ≠ a) : upd (upd (upd H d o1) a o2) d o3 = upd (upd H d o3) a o2 := by
  funext b
  by_cases e : b = d
  · subst e
    rw [upd_same, upd_ne ne, upd_same]
  · rw [upd_ne e]
    by_cases e2 : b = a
    · subst e2; rw [upd_same, upd_same]
    · rw [upd_ne e2, upd_ne e2, upd_ne e, upd_ne e]
section
variable {X : Cx} {N : List Str} {sc : PySem.Scope}
theorem init_more (g : X.N = N) (hv : ∀ x, visB sc x = true → Vis X.env.scope x) : ∀ (fs : List Str) (i : Nat) (l : List PySem.Stmt), iniB N sc i fs l = true →
    PSs X l (fun D σ H => ∃ (a C d : Addr) (old : List (Str × V)) (ws : List V), σ[0]? = some (some (.ref a)) ∧ (∀ j v, ws[j]? = some v → σ[i + j]? = some (some v)) ∧ ws.length = fs.length ∧ OexC X.K C ∧ (∀ f ∈ fs, PySem.W.findIn X.K (.ref C) f = some none) ∧
      H a = some (exo a C (some d)) ∧ H d = some (exd d old) ∧ d ≠ a ∧ old.length + fs.length ≤ 900 ∧ D.nx σ (upd H d (exd d ((fs.zip ws).reverse ++ old)))) := fun fs => by
  induction fs with
  | nil =>
    intro i l h
    cases l with
    | cons _ _ => simp [iniB] at h
    | nil =>
      refine pss_nil.evi fun D σ H q => ?_
      obtain ⟨a, C, d, old, ws, _, _, _, _, _, _, hd, _, _, q⟩ := q
      have e : upd H d (exd d ((([] : List Str).zip ws).reverse ++ old)) = H := upd_id hd
      rw [e] at q
      exact q
  | cons f fs ih =>
    intro i l h
    unfold iniB at h
    split at h
    · cases ‹f :: fs = []›
    · rename_i i0 q0 q1 q2 f' fs' x px g' pg y py ps r e
      cases e
      simp only [Bool.and_eq_true, decide_eq_true_eq] at h
      obtain ⟨⟨⟨⟨⟨⟨⟨h0, h1⟩, rfl⟩, v0⟩, v1⟩, o0⟩, o1⟩, hr⟩ := h
      refine (pss_cons (ps_ost (pe_var (by rw [g]; exact h0) (hv _ v0) (okN_2 o0).1 (okN_2 o0).2) (pe_var (by rw [g]; exact h1) (hv _ v1) (okN_2 o1).1 (okN_2 o1).2)) (ih (i0 + 1) r hr)).evi fun D σ H q => ?_
      obtain ⟨a, C, d, old, ws, q0, qw, ql, T, nf, ha, hd, ne, hl, q⟩ := q
      cases ws with
      | nil => cases ql
      | cons w ws =>
        refine ⟨w, qw 0 w rfl, .ref a, q0, a, C, rfl, T, nf _ List.mem_cons_self, .inr ⟨d, old, ha, hd, by simp only [List.length_cons] at hl; omega, ?_⟩⟩
        refine ⟨a, C, d, (f, w) :: old, ws, q0, fun j v e => ?_, by simpa using ql, T, fun g hg => nf g (List.mem_cons_of_mem _ hg), ?_, upd_same, ne, by simp only [List.length_cons] at hl ⊢; omega, ?_⟩
        · have := qw (j + 1) v (by simpa using e)
          rw [show i0 + 1 + j = i0 + (j + 1) by omega]
          exact this
        · rw [upd_ne (Ne.symm ne)]; exact ha
        · have e : upd (upd H d (exd d ((f, w) :: old))) d (exd d ((fs.zip ws).reverse ++ (f, w) :: old)) = upd H d (exd d (((f :: fs).zip (w :: ws)).reverse ++ old)) := by
            funext b
            by_cases eb : b = d
            · subst eb
              rw [upd_same, upd_same, List.zip_cons_cons, List.reverse_cons, List.append_assoc]; rfl
            · rw [upd_ne eb, upd_ne eb, upd_ne eb]
          rw [e]
          exact q
    · exact absurd h Bool.false_ne_true
theorem init_all (g : X.N = N) (hv : ∀ x, visB sc x = true → Vis X.env.scope x) (f : Str) (fs : List Str) (l : List PySem.Stmt) (h : iniB N sc 1 (f :: fs) l = true) (hl : fs.length ≤ 20) :
    PSs X l (fun D σ H => ∃ (a C : Addr) (ws : List V), σ[0]? = some (some (.ref a)) ∧ (∀ j v, ws[j]? = some v → σ[1 + j]? = some (some v)) ∧ ws.length = fs.length + 1 ∧ OexC X.K C ∧ (∀ g ∈ f :: fs, PySem.W.findIn X.K (.ref C) g = some none) ∧
      H a = some (exo a C none) ∧ ∀ d, H d = none → d ≠ a → D.nx σ (upd (upd H d (exd d ((f :: fs).zip ws).reverse)) a (exo a C (some d)))) := by
  unfold iniB at h
  split at h
  · cases ‹f :: fs = []›
  · rename_i f' fs' x px g' pg y py ps r e
    cases e
    simp only [Bool.and_eq_true, decide_eq_true_eq] at h
    obtain ⟨⟨⟨⟨⟨⟨⟨h0, h1⟩, rfl⟩, v0⟩, v1⟩, o0⟩, o1⟩, hr⟩ := h
    refine (pss_cons (ps_ost (pe_var (by rw [g]; exact h0) (hv _ v0) (okN_2 o0).1 (okN_2 o0).2) (pe_var (by rw [g]; exact h1) (hv _ v1) (okN_2 o1).1 (okN_2 o1).2)) (init_more g hv fs 2 r hr)).evi fun D σ H q => ?_
    obtain ⟨a, C, ws, q0, qw, ql, T, nf, ha, q⟩ := q
    cases ws with
    | nil => cases ql
    | cons w ws =>
      refine ⟨w, qw 0 w rfl, .ref a, q0, a, C, rfl, T, nf _ List.mem_cons_self, .inl ⟨ha, fun d hd ne => ?_⟩⟩
      refine ⟨a, C, d, [(f, w)], ws, q0, fun j v e => ?_, by simpa using ql, T, fun g hg => nf g (List.mem_cons_of_mem _ hg), upd_same, ?_, ne, by simp; omega, ?_⟩
      · have := qw (j + 1) v (by simpa using e)
        rw [show 2 + j = 1 + (j + 1) by omega]
        exact this
      · rw [upd_ne ne, upd_same]
      · rw [upd_upd ne]
        have := q d hd ne
        rw [List.zip_cons_cons, List.reverse_cons] at this
        exact this
  · exact absurd h Bool.false_ne_true
end
section
variable {K : PySem.W.Frag} {mg : Str → Option Value} {P : Program} {w : World} {base : Heap}
/-- an exception's __init__ keeps its promise -/
theorem init_ok {x qual : Str} {params : Arguments} {body : List PySem.Stmt} {scope : PySem.Scope} {f : Addr} {fd : FuncData} {C : Addr} {N ps ns : List Str} (F : FunD K x qual params body scope [] [] f fd) (S : FnScope N ps scope)
    (hn : N.length = ns.length + 1) (hp : ps.length = ns.length + 1) (n0 : ns ≠ []) (hl : ns.length ≤ 20) (hb : iniB N scope 1 ns (dropDoc body) = true) (T : OexC K C) (nf : ∀ g ∈ ns, PySem.W.findIn K (.ref C) g = some none) : FnOk P w K mg base (L2.CX P w) 1 f fd ps (spI K C ns) := by
  refine F.ok S (fun vs H Q E h => ?_) fun cdv A outer s H vs Q E hr h => ?_
  · obtain ⟨a, ws, rfl, h1, _⟩ := h
    rw [List.length_cons, h1, hp]
  · obtain ⟨a, ws, rfl, h1, ha, q⟩ := h
    cases ns with
    | nil => exact absurd rfl n0
    | cons f0 fs =>
      refine ⟨_, dropD_ok body (init_all (X := cxOf (L2.CX P w) P w K mg base N qual scope f cdv A outer s H E) (N := N) (sc := scope) rfl ?_ f0 fs (dropDoc body) hb (by simp only [List.length_cons] at hl; omega)), a, C, ws, ?_, ?_, by simpa using h1, T, nf, ha, fun d hd ne => ?_⟩
      · intro y hy
        unfold visB at hy
        show Vis scope y
        split at hy
        · rename_i e; exact .inl e
        · rename_i e; exact .inr (.inl e)
        · rename_i e; exact .inr (.inr e)
        · cases hy
      · rfl
      · intro j v e
        have hj : j < ws.length := (List.getElem?_eq_some_iff.mp e).1
        show (L2.start N (.ref a :: ws))[1 + j]? = _
        unfold L2.start
        rw [List.getElem?_append_left (by simp; omega), List.getElem?_map, Nat.add_comm, List.getElem?_cons_succ, e]; rfl
      · have := q d hd ne
        exact this
end
/-- how an exception of the table lies in the heap -/
def xrOf (xc : List (Str × List Str)) (K : PySem.W.Frag) : Xn → Value → Option Addr → Hp → Prop := fun x cls dd H =>
  ∃ (n : Str) (ns : List Str) (d : Addr) (vs : List V) (W : Wd), xc[x.c]? = some (n, ns) ∧ cls = .ref (He.ga K n) ∧ dd = some d ∧ vs.length = ns.length ∧ H d = some (.xd (ns.zip vs).reverse) ∧ x.ds.all D.fl = true ∧ Rps K W H vs x.ds
/-- a class of the table may be raised -/
structure RaiseAt (X : Cx) (x : Str) (ns : List Str) : Prop where
  ex : ∃ fI fd ps k, OexC X.K (He.ga X.K x) ∧ PySem.W.findIn X.K (.ref (He.ga X.K x)) "__init__" = some (some (.ref fI)) ∧ PySem.W.typeIn X.K (.ref fI) = some (.type "function") ∧
    FnOk X.prog X.w X.K X.mg X.base (L2.CX X.prog X.w) k fI fd ps (spI X.K (He.ga X.K x) ns) ∧ Room (k + 1) X.A ∧ Binds X.K fd ps [] ∧ X.mg x = some (.ref (He.ga X.K x))
/-- its fields may be read -/
structure XfAt (K : PySem.W.Frag) (x : Str) (ns : List Str) : Prop where
  xf : XfC K (He.ga K x)
  no : ∀ f ∈ ns, PySem.W.findIn K (.ref (He.ga K x)) f = some none
  nd : ns.Nodup
mutual
theorem noc_lb : ∀ d : D, d.noc = true → d.lb 0 = true
  | .non, _ | .bl _, _ | .int _, _ | .str _, _ | .strm, _ | .ext _, _ | .ktp _, _ => rfl
  | .tup ds, h => nocs_lbs ds (by simpa [D.noc] using h)
  | .lst ds, h => nocs_lbs ds (by simpa [D.noc] using h)
  | .obj _ ds, h => nocs_lbs ds (by simpa [D.noc] using h)
  | .loc _, h => by simp [D.noc] at h
theorem nocs_lbs : ∀ ds : List D, D.nocs ds = true → D.lbs 0 ds = true
  | [], _ => rfl
  | d :: ds, h => by
    simp only [D.nocs, Bool.and_eq_true] at h
    simp only [D.lbs, Bool.and_eq_true]
    exact ⟨noc_lb d h.1, nocs_lbs ds h.2⟩
end
/-- a flat thing means the same in any world -/
theorem Rp.flat {K : PySem.W.Frag} {W W' : Wd} {H : Hp} {d : D} {v : V} (h : d.fl = true) (r : Rp K W H v d) : Rp K W' H v d := by
  unfold D.fl at h
  simp only [Bool.and_eq_true] at h
  have hb : d.lb 0 = true := by
    have go : (∀ d : D, d.noc = true → d.lb 0 = true) := noc_lb
    exact go d h.1.2
  have r0 : Rp K (W.trimL 0) H v d := Rp.trim d v hb r
  have hL : (W.trimL 0).L = [] := by show W.L.take 0 = []; simp
  exact Rp.wk (W := W.trimL 0) (W' := W') ⟨W'.L, by rw [hL]; rfl⟩ d v (.inl h.1.1) (.inl h.2) r0
theorem Rps.flat {K : PySem.W.Frag} {W W' : Wd} {H : Hp} : ∀ {ds : List D} {vs : List V}, ds.all D.fl = true → Rps K W H vs ds → Rps K W' H vs ds
  | [], [], _, _ => trivial
  | d :: ds, v :: vs, h, r => by
    rw [List.all_cons, Bool.and_eq_true] at h
    exact ⟨Rp.flat h.1 r.1, Rps.flat h.2 r.2⟩
  | [], _ :: _, _, r => r.elim
  | _ :: _, [], _, r => r.elim
end EV

namespace EV
open PySem PySem.Spec PyProof.Rows L2
/-! lists and tuples alike, walked by enumerate and by zip -/
def SqG (K : PySem.W.Frag) (H : Hp) : Bool → Addr → List V → Prop
  | true, a, xs => SqL K H a xs
  | false, a, xs => SqT K H a xs
def ItG (h : Heap) : Bool → Addr → Addr → Nat → Prop
  | true, it, a, i => h.IsListIter it a i
  | false, it, a, i => h.IsTupleIter it a i
def IsG (h : Heap) : Bool → Addr → Array Value → Prop
  | true, a, its => h.IsList a its
  | false, a, its => h.IsTuple a its
def oG : Bool → Addr → Obj
  | true, a => { cls := .type "list_iterator", data := .fields #[.ref a, .int 0 0] }
  | false, a => { cls := .type "tuple_iterator", data := .fields #[.ref a, .int 0 0] }
theorem begins_g (b : Bool) (a : Addr) (items : Array Value) : Begins (.ref a) (oG b a) fun h => IsG h b a items := by
  cases b
  · exact begins_tuple a items
  · exact begins_list a items
theorem draws_g {prog : Program} {w : World} {A : Around} (hh : A.handled = none) (b : Bool) (it a : Addr) (hne : a ≠ it) (items : Array Value) :
    Draws prog w A it [it, a] items.size (fun i v => items[i]? = some v) (fun i h => ItG h b it a i ∧ IsG h b a items) := by
  cases b
  · exact Draws.tuple hh it a hne items
  · exact Draws.list hh it a hne items
theorem ItG.at {h h' : Heap} {b : Bool} {it a : Addr} {i : Nat} (x : ItG h b it a i) (e : ∀ o, h.get? it = some o → h'.get? it = some o) : ItG h' b it a i := by
  cases b
  · exact Heap.IsTupleIter.at x e
  · exact Heap.IsListIter.at x e
theorem ItG.obj {h : Heap} {b : Bool} {it a : Addr} {i : Nat} (x : ItG h b it a i) : ∃ o, h.get? it = some o ∧ (∀ v, o.data ≠ .cell v) ∧ ∀ its m, o.data ≠ .seq its m := by
  cases b
  · obtain ⟨o, e, _, d⟩ := x
    exact ⟨o, e, fun v => (by rw [d]; exact fun q => nomatch q), fun _ _ => (by rw [d]; exact fun q => nomatch q)⟩
  · obtain ⟨o, e, _, d⟩ := x
    exact ⟨o, e, fun v => (by rw [d]; exact fun q => nomatch q), fun _ _ => (by rw [d]; exact fun q => nomatch q)⟩
theorem ItG.zero {h : Heap} {b : Bool} {it a : Addr} (e : h.get? it = some (oG b a)) : ItG h b it a 0 := by
  cases b
  · exact ⟨_, e, rfl, rfl⟩
  · exact ⟨_, e, rfl, rfl⟩
theorem IsG.obj {h : Heap} {b : Bool} {a : Addr} {its : Array Value} (x : IsG h b a its) : ∃ o m, h.get? a = some o ∧ o.data = .seq its m := by
  cases b
  · obtain ⟨o, e, _, m, d⟩ := x
    exact ⟨o, m, e, d⟩
  · obtain ⟨o, e, _, m, d⟩ := x
    exact ⟨o, m, e, d⟩
section
variable {X : Cx} {pins : List (Addr × Obj)} {σ : L2.St} {H : Hp} {s : Shared}
theorem seqG (I : Inv X pins σ H s) {b : Bool} {a : Addr} {xs : List V} (h : SqG X.K H b a xs) : ∃ its : List Value, Vals xs its ∧ IsG s.heap b a its.toArray := by
  cases b
  · obtain ⟨its, r, p, _⟩ := I.tuple h
    exact ⟨its, r, p⟩
  · obtain ⟨its, r, p, _⟩ := I.list h
    exact ⟨its, r, p.isList⟩
theorem seqG_inj (I : Inv X pins σ H s) {b : Bool} {a : Addr} {xs ys : List V} (h : SqG X.K H b a xs) (h' : SqG X.K H b a ys) : xs = ys := by
  cases b
  · exact I.tuple_inj h h'
  · exact I.list_inj h h'
end
/-! ### enumerate -/
def IteG (K : PySem.W.Frag) (b : Bool) (a : Addr) : It :=
  ⟨fun i H => ∃ (xs : List V) (x : V), SqG K H b a xs ∧ xs[i]? = some x, fun i H v H' => ∃ T x, v = .ref T ∧ H T = none ∧ H' = upd H T (.tup [.int (i : Nat), x]) ∧ ∀ xs, SqG K H b a xs → xs[i]? = some x, fun i H => ∃ xs : List V, SqG K H b a xs ∧ xs.length = i⟩
theorem turn_enumG {P : Program} {w : World} {K : PySem.W.Frag} {elts : List Expr} {kk : Nat} {tpos : Pos} (b : Bool) (a e it : Addr) :
    Turn P w K (.Tuple elts kk tpos) (IteG K b a) [e, it] e (fun i h => (∃ old, IsEnum h e it ((i : Nat) : Int) old) ∧ ItG h b it a i ∧ e ≠ it) where
  mem := by simp
  obj := fun i h st c hb => by
    obtain ⟨⟨old, he⟩, hi, _⟩ := st
    have e' : c = e ∨ c = it := by simpa using hb
    rcases e' with z | z
    · rw [z]; exact ⟨_, he, fun v q => nomatch q⟩
    · rw [z]
      obtain ⟨o, h1, h2, _⟩ := hi.obj
      exact ⟨o, h1, h2⟩
  keep := fun i h h' st k => let ⟨⟨old, he⟩, hi, hne⟩ := st; ⟨⟨old, k e (by simp) _ he⟩, hi.at fun o q => k it (by simp) o q, hne⟩
  item := by
    intro X hP hw hK hc i pins s σ H E I hf st hg
    subst hP hw hK
    obtain ⟨⟨old, he⟩, hit, hne⟩ := st
    obtain ⟨xs, x, hq, hx⟩ := hg
    obtain ⟨its, rv, p⟩ := seqG I hq
    obtain ⟨u, hu, ru⟩ := rv.get hx
    have hel : e < s.heap.objs.size := Heap.lt_size he
    obtain ⟨oi, hoi, _, hd⟩ := hit.obj
    obtain ⟨oa, ma, hoa, hda⟩ := p.obj
    have hil : it < s.heap.objs.size := Heap.lt_size hoi
    have nai : a ≠ it := fun z => by rw [z, hoi] at hoa; cases hoa; exact hd _ _ hda
    have nae : e ≠ a := fun z => by rw [← z, he] at hoa; cases hoa; cases hda
    have hlt : i < its.toArray.size := by
      have := (List.getElem?_eq_some_iff.mp hu).1
      simpa using this
    refine wpAny_pyNext_enum_itemD (draws_g (prog := X.prog) (w := X.w) (A := X.A.in1) (I.ok.hd hc) b it a nai its.toArray) he ⟨hit, p⟩ hlt hne (by simp [hne, nae]) fun u' h' tk hu' ho st' hT hsz hk => ?_
    have eu : u' = u := by
      have hu' : its.toArray[i]? = some u' := hu'
      rw [List.getElem?_toArray, hu] at hu'
      exact (Option.some.inj hu').symm
    subst eu
    refine ⟨_, rfl, wpAny_letOwnedTupleGo_enum (s := { s with heap := h', toks := tk + 1 }) ho fun h'' he' sb => ?_⟩
    have hT2 : h''.get? s.heap.objs.size = some { cls := .type "tuple", data := .seq #[.int i tk, u'] } := (sb.2 _ (Nat.ne_of_gt hel)).trans hT
    have new : ObjOk X.prog X.w (upd H s.heap.objs.size (.tup [.int (i : Nat), x])) h'' s.heap.objs.size (.tup [.int (i : Nat), x]) :=
      ⟨by show 2 ≤ sizeLine; decide, [.int i tk, u'], .cons ⟨_, rfl⟩ (.cons ru .nil), ⟨_, hT2, rfl, _, rfl⟩⟩
    have I1 : Inv X pins σ (upd H s.heap.objs.size (.tup [.int (i : Nat), x])) { s with heap := h'', toks := tk + 1 } :=
      I.turnedNew (ch := [e, it]) (fun b ob hb q => (sb.2 b (fun z => hb (by simp [z]))).trans (hk b ob (fun z => hb (by simp [z])) (fun z => hb (by simp [z])) q)) hf (Nat.le_refl _) new
    refine ⟨.ref s.heap.objs.size, _, I1, rfl, ⟨_, x, rfl, I.hok.fresh (Nat.le_refl _), rfl, fun ys hy => by rw [seqG_inj I hy hq]; exact hx⟩, ⟨⟨u', ?_⟩, st'.1.at fun o q => (sb.2 it (Ne.symm hne)).trans q, hne⟩, fun b hb => ?_⟩
    · have e1 : ((i + 1 : Nat) : Int) = (i : Int) + 1 := by omega
      rw [e1]; exact he'
    · have hb' : b < s.heap.objs.size := by
        have e' : b = e ∨ b = it := by simpa using hb
        rcases e' with z | z
        · rw [z]; exact hel
        · rw [z]; exact hil
      rw [upd_ne (Nat.ne_of_lt hb')]
      exact (hf b hb).1
  done := by
    intro X hP hw hK hc i pins s σ H E I hf st hg
    subst hP hw hK
    obtain ⟨⟨old, he⟩, hit, hne⟩ := st
    obtain ⟨xs, hq, hx⟩ := hg
    obtain ⟨its, rv, p⟩ := seqG I hq
    obtain ⟨f0, f1, f2, f3, f4, f5⟩ := hf it (by simp)
    obtain ⟨oi, hoi, _, hd⟩ := hit.obj
    obtain ⟨oa, ma, hoa, hda⟩ := p.obj
    have nai : a ≠ it := fun z => by rw [z, hoi] at hoa; cases hoa; exact hd _ _ hda
    have hl := rv.length
    have ei : i = its.toArray.size := by simp; omega
    exact wpAny_pyNext_enum_endD (draws_g (prog := X.prog) (w := X.w) (A := X.A.in1) (I.ok.hd hc) b it a nai its.toArray) he (by rw [← ei]; exact ⟨hit, p⟩) fun h' eb => ⟨rfl, I.turned (t' := s.toks) (fun b o hb q => eb b o hb q) f0 f1 f3 f4 f5⟩
  self := fun A i s Q E st h => let ⟨⟨_, he⟩, _⟩ := st; wpAny_pyIter_enum he h
set_option maxHeartbeats 1000000 in
theorem meets_enumG {v : Value} {o : Obj} {H : Heap → Prop} (B : Begins v o H) :
    Meets (Builtin.«enumerate.__new__» ⟨[.type "enumerate", v], []⟩) (fun _ R s => H s.heap ∧
      R (.ok (.ret (.ref (s.heap.push o).objs.size))) { s with heap := (s.heap.push o).push { cls := .type "enumerate", data := .fields #[.none, .bool false, .ref s.heap.objs.size, rawInt 0, .none, .none] } }) :=
  .of_wp fun prog w A R s h => by
    obtain ⟨hp, g, d, tk, os⟩ := s; obtain ⟨h1, h⟩ := h
    have hsub := sub_enumerate
    have q1 : ∀ {A' : Around} {E : Value → Shared → Prop} {Q : Value → Shared → Prop}, Q (.ref hp.objs.size) ⟨hp.push o, g, d, tk, os⟩ → wpAny (model prog w) A' (pyIter v) Q E ⟨hp, g, d, tk, os⟩ :=
      fun q => B.iter prog w _ _ ⟨hp, g, d, tk, os⟩ _ h1 q
    wp_walk using q1
    refine wpAny_stack_any fun st => wpAny_pure ?_
    split
    · rename_i c _ _ _ _ _
      cases (c == Value.type "enumerate")
      · wp_walk using q1
        exact ⟨_, rfl, h⟩
      · wp_walk using q1
        exact ⟨_, rfl, h⟩
    · wp_walk using q1
      exact ⟨_, rfl, h⟩
theorem call_enumG {prog : Program} {w : World} {A : Around} {E : Value → Shared → Prop} {s : Shared} {v : Value} {o : Obj} {H : Heap → Prop} {Q : Value → Shared → Prop} (B : Begins v o H) (h1 : H s.heap)
    (h : ∀ h', IsEnum h' (s.heap.objs.size + 1) s.heap.objs.size 0 .none → h'.get? s.heap.objs.size = some o → h'.objs.size = s.heap.objs.size + 2 →
      (∀ b o, s.heap.get? b = some o → h'.get? b = some o) → Q (.ref (s.heap.objs.size + 1)) { s with heap := h' }) :
    wpAny (model prog w) A (call (.type "enumerate") [v]) Q E s := by
  refine callType_new F.called_enumerate (by decide) (F.typeCall_enumerate_1 _) (F.newCall_enumerate_1 _) (fun obj => F.args_object_init_2 obj _) F.entry_enumerate_new
    (meets_enumG B) ⟨h1, ?_⟩
  have hz : (s.heap.push o).objs.size = s.heap.objs.size + 1 := Heap.size_push ..
  show _ ∧ _
  rw [hz]
  have he : IsEnum ((s.heap.push o).push { cls := .type "enumerate", data := .fields #[.none, .bool false, .ref s.heap.objs.size, rawInt 0, .none, .none] }) (s.heap.objs.size + 1) s.heap.objs.size 0 .none := by
    have := Heap.get?_push_size (s.heap.push o) (o := { cls := .type "enumerate", data := .fields #[.none, .bool false, .ref s.heap.objs.size, rawInt 0, .none, .none] }) rfl
    rw [hz] at this; exact this
  refine ⟨⟨_, he, rfl⟩, h _ he (Heap.get?_push_of_some _ (Heap.get?_push_size _ B.free)) (by rw [Heap.size_push, hz]) fun b o x => Heap.get?_push_of_some _ (Heap.get?_push_of_some _ x)⟩
def iEnumG (K : PySem.W.Frag) (ta : TA) : TI := fun σ H R => ta σ H fun vs H1 => ∃ b a xs, vs = [.ref a] ∧ SqG K H1 b a xs ∧ R (IteG K b a) H1
theorem pi_enumG {X : Cx} {e : Expr} {ta : TA} {p pos tpos : Pos} {elts : List Expr} {kk : Nat} (hg : Gl X "enumerate") (hm : X.mg "enumerate" = none) (ha : PA X [e] ta) (hs : starEach [e] X.env = [(false, eval e X.env)] := by rfl) :
    PI X (.Tuple elts kk tpos) (.Call (.Name "enumerate" p) [e] [] pos) (iEnumG X.K ta) := by
  refine ⟨fun pins s σ H R I h => ?_⟩
  refine Call_ (ld_blt I hg hm boot_enumerate (PyProof.Rows.callWith_type1 (thn (ha.run pos pins s σ H _ I h) fun us s1 ⟨vs, H1, I1, r1, q1⟩ => ?_) hs rfl))
  obtain ⟨b, a, xs, ex, hq, q⟩ := q1
  subst ex
  cases r1 with
  | cons r rr =>
    cases rr
    cases r
    obtain ⟨its, rv, p'⟩ := seqG I1 hq
    refine call_enumG (begins_g b a its.toArray) p' fun h' he hit hsz hk => wpAny_pyIter_enum he ?_
    have I2 : Inv X pins σ H1 { s1 with heap := h' } := I1.kept (t' := s1.toks) hk
    refine ⟨s1.heap.objs.size + 1, [s1.heap.objs.size + 1, s1.heap.objs.size], _, _, H1, rfl, I2, turn_enumG b a (s1.heap.objs.size + 1) s1.heap.objs.size, ⟨⟨.none, he⟩, ItG.zero hit, Nat.succ_ne_self _⟩, fun b hb => ?_, q⟩
    have e' : b = s1.heap.objs.size + 1 ∨ b = s1.heap.objs.size := by simpa using hb
    have hle : s1.heap.objs.size ≤ b := by
      rcases e' with z | z
      · rw [z]; exact Nat.le_add_right _ _
      · rw [z]; exact Nat.le_refl _
    exact I1.fpOk hle (I1.hok.fresh hle)
/-! ### zip -/
def ItzG (K : PySem.W.Frag) (b1 b2 : Bool) (a b : Addr) : It :=
  ⟨fun i H => ∃ (xs ys : List V) (x y : V), SqG K H b1 a xs ∧ SqG K H b2 b ys ∧ xs[i]? = some x ∧ ys[i]? = some y,
    fun i H v H' => ∃ T x y, v = .ref T ∧ H T = none ∧ H' = upd H T (.tup [x, y]) ∧ (∀ xs, SqG K H b1 a xs → xs[i]? = some x) ∧ ∀ ys, SqG K H b2 b ys → ys[i]? = some y,
    fun i H => ∃ xs ys : List V, SqG K H b1 a xs ∧ SqG K H b2 b ys ∧ i ≤ xs.length ∧ i ≤ ys.length ∧ (i = xs.length ∨ i = ys.length)⟩
structure ZA (z TI TO i1 i2 : Addr) : Prop where
  TIz : TI ≠ z
  TOz : TO ≠ z
  i1z : i1 ≠ z
  i2z : i2 ≠ z
  TITO : TI ≠ TO
  TIi1 : TI ≠ i1
  TIi2 : TI ≠ i2
  TOi1 : TO ≠ i1
  TOi2 : TO ≠ i2
  i12 : i1 ≠ i2
theorem za_new (I : Nat) : ZA (I + 4) (I + 2) (I + 3) I (I + 1) := by
  have h : ∀ {x y : Nat}, (x < y ∨ y < x) → x ≠ y := fun h => by omega
  exact ⟨h (by omega), h (by omega), h (by omega), h (by omega), h (by omega), h (by omega), h (by omega), h (by omega), h (by omega), h (by omega)⟩
/-- a sequence that the heap tracks or K holds is none of the iterator's own objects -/
theorem seq_ne {X : Cx} {pins : List (Addr × Obj)} {σ : L2.St} {H : Hp} {s : Shared} (I : Inv X pins σ H s) {b : Bool} {a c : Addr} {xs : List V} (h : SqG X.K H b a xs) (f : FpOk X pins H c) : a ≠ c := by
  have fromK : ∀ o, X.K.lookup a = some o → a ≠ c := fun o e z => by
    have g := I.ok.mod.kin a o e
    have q := (I.ok.bs a o g).1
    rcases f.2.2.2.1 with k | k
    · exact I.ok.noex a o g (by rw [z]; exact k)
    · exact absurd (Heap.lt_size q) (by rw [z]; exact Nat.not_lt.mpr k)
  have fromH : ∀ u, H a = some u → a ≠ c := fun u e z => by
    rw [z, f.1] at e; cases e
  cases b
  · rcases h with (h | ⟨o, h⟩) | ⟨o, _, _, e, _⟩
    · exact fromH _ h
    · exact fromH _ h
    · exact fromK o e
  · rcases h with (h | ⟨o, h⟩) | ⟨o, _, _, e, _⟩
    · exact fromH _ h
    · exact fromH _ h
    · exact fromK o e
theorem sep_of {X : Cx} {pins : List (Addr × Obj)} {σ : L2.St} {H : Hp} {s : Shared} {z TI TO i1 i2 a b : Addr} {b1 b2 : Bool} {xs ys : List V} (D : ZA z TI TO i1 i2) (I : Inv X pins σ H s) (hf : ∀ c ∈ [z, TI, TO, i1, i2], FpOk X pins H c)
    (h1 : SqG X.K H b1 a xs) (h2 : SqG X.K H b2 b ys) : ZipSep2 z TI TO i1 i2 [i1, a] [i2, b] ∧ a ≠ i1 ∧ b ≠ i2 := by
  have A : ∀ c ∈ [z, TI, TO, i1, i2], a ≠ c := fun c hc => seq_ne I h1 (hf c hc)
  have B : ∀ c ∈ [z, TI, TO, i1, i2], b ≠ c := fun c hc => seq_ne I h2 (hf c hc)
  have az := (A z (by simp)).symm
  have bz := (B z (by simp)).symm
  have aT := (A TO (by simp)).symm
  have bT := (B TO (by simp)).symm
  have a2 := (A i2 (by simp)).symm
  have b1' := (B i1 (by simp)).symm
  refine ⟨⟨D.TIz, D.TOz, D.TITO, D.TIi1, by simp, ?_, ?_, D.TIi2, by simp, ?_, ?_, ?_, ?_⟩, A i1 (by simp), B i2 (by simp)⟩
  · simp [az, D.i1z.symm]
  · simp [aT, D.TOi1]
  · simp [bz, D.i2z.symm]
  · simp [bT, D.TOi2]
  · simp [b1', D.i12]
  · simp [a2, D.i12.symm]
theorem turn_zipG {P : Program} {w : World} {K : PySem.W.Frag} {elts : List Expr} {kk : Nat} {tpos : Pos} (b1 b2 : Bool) {a b z TI TO i1 i2 : Addr} (D : ZA z TI TO i1 i2) :
    Turn P w K (.Tuple elts kk tpos) (ItzG K b1 b2 a b) [z, TI, TO, i1, i2] z (fun i h => IsZip h z TI TO .none ∧ IsPair h TI (.ref i1) (.ref i2) ∧ (∃ x y, IsPair h TO x y) ∧ ItG h b1 i1 a i ∧ ItG h b2 i2 b i) where
  mem := by simp
  obj := fun i h st c hc => by
    obtain ⟨hz, hTI, ⟨x, y, hTO⟩, h1, h2⟩ := st
    have e' : c = z ∨ c = TI ∨ c = TO ∨ c = i1 ∨ c = i2 := by simpa using hc
    rcases e' with q | q | q | q | q
    · rw [q]; exact ⟨_, hz, fun v q => nomatch q⟩
    · rw [q]; exact ⟨_, hTI, fun v q => nomatch q⟩
    · rw [q]; exact ⟨_, hTO, fun v q => nomatch q⟩
    · rw [q]; obtain ⟨o, e, d, _⟩ := h1.obj; exact ⟨o, e, d⟩
    · rw [q]; obtain ⟨o, e, d, _⟩ := h2.obj; exact ⟨o, e, d⟩
  keep := fun i h h' st k => by
    obtain ⟨hz, hTI, ⟨x, y, hTO⟩, h1, h2⟩ := st
    exact ⟨k z (by simp) _ hz, k TI (by simp) _ hTI, ⟨x, y, k TO (by simp) _ hTO⟩, h1.at fun o q => k i1 (by simp) o q, h2.at fun o q => k i2 (by simp) o q⟩
  item := by
    intro X hP hw hK hc i pins s σ H E I hf st hg
    subst hP hw hK
    obtain ⟨hz, hTI, ⟨x0, y0, hTO⟩, h1, h2⟩ := st
    obtain ⟨xs, ys, x, y, hqx, hqy, hx, hy⟩ := hg
    obtain ⟨its, rv, p⟩ := seqG I hqx
    obtain ⟨its2, rv2, p2⟩ := seqG I hqy
    obtain ⟨u, hu, ru⟩ := rv.get hx
    obtain ⟨u2, hu2, ru2⟩ := rv2.get hy
    have hzl : z < s.heap.objs.size := Heap.lt_size hz
    obtain ⟨S, n1, n2⟩ : ZipSep2 z TI TO i1 i2 [i1, a] [i2, b] ∧ a ≠ i1 ∧ b ≠ i2 := by
      have sep := sep_of D I hf hqx hqy
      exact sep
    have hlt1 : i < its.toArray.size := by
      have := (List.getElem?_eq_some_iff.mp hu).1
      simpa using this
    have hlt2 : i < its2.toArray.size := by
      have := (List.getElem?_eq_some_iff.mp hu2).1
      simpa using this
    refine wpAny_pyNext_zipD2_item S (draws_g (prog := X.prog) (w := X.w) (A := X.A.in1) (I.ok.hd hc) b1 i1 a n1 its.toArray) (draws_g (prog := X.prog) (w := X.w) (A := X.A.in1) (I.ok.hd hc) b2 i2 b n2 its2.toArray) hz hTI hTO ⟨h1, p⟩ ⟨h2, p2⟩ hlt1 hlt2 fun u' u2' h' tk hu' hu2' z' TO' st1 st2 hT hsz hk => ?_
    have eu : u' = u := by
      have hu' : its.toArray[i]? = some u' := hu'
      rw [List.getElem?_toArray, hu] at hu'
      exact (Option.some.inj hu').symm
    have eu2 : u2' = u2 := by
      have hu2' : its2.toArray[i]? = some u2' := hu2'
      rw [List.getElem?_toArray, hu2] at hu2'
      exact (Option.some.inj hu2').symm
    subst eu eu2
    refine ⟨_, rfl, wpAny_letOwnedTupleGo_zip (s := { s with heap := h', toks := tk }) z' fun h'' z'' sb => ?_⟩
    have hT2 : h''.get? s.heap.objs.size = some { cls := .type "tuple", data := .seq #[u', u2'] } := (sb.2 _ (Nat.ne_of_gt hzl)).trans hT
    have new : ObjOk X.prog X.w (upd H s.heap.objs.size (.tup [x, y])) h'' s.heap.objs.size (.tup [x, y]) :=
      ⟨by show 2 ≤ sizeLine; decide, [u', u2'], .cons ru (.cons ru2 .nil), ⟨_, hT2, rfl, _, rfl⟩⟩
    have I1 : Inv X pins σ (upd H s.heap.objs.size (.tup [x, y])) { s with heap := h'', toks := tk } :=
      I.turnedNew (t' := tk) (ch := [z, TI, TO, i1, i2]) (fun c o hb q => (sb.2 c (fun q' => hb (by simp [q']))).trans (hk c o (fun q' => hb (by simp [q'])) (fun q' => hb (by simp [q'])) (fun q' => hb (by simp [q'])) (fun q' => hb (by simp [q'])) q)) hf (Nat.le_refl _) new
    refine ⟨.ref s.heap.objs.size, _, I1, rfl, ⟨_, x, y, rfl, I.hok.fresh (Nat.le_refl _), rfl, fun l hl => by rw [seqG_inj I hl hqx]; exact hx, fun l hl => by rw [seqG_inj I hl hqy]; exact hy⟩, ⟨z'', ?_, ⟨u', u2', ?_⟩, ?_, ?_⟩, fun c hcm => ?_⟩
    · exact (sb.2 _ D.TIz).trans (hk _ _ D.TIz D.TITO D.TIi1 D.TIi2 hTI)
    · exact (sb.2 _ D.TOz).trans TO'
    · exact st1.1.at fun o q => (sb.2 _ D.i1z).trans q
    · exact st2.1.at fun o q => (sb.2 _ D.i2z).trans q
    · have hlt : c < s.heap.objs.size := by
        have e' : c = z ∨ c = TI ∨ c = TO ∨ c = i1 ∨ c = i2 := by simpa using hcm
        rcases e' with q | q | q | q | q
        · rw [q]; exact hzl
        · rw [q]; exact Heap.lt_size hTI
        · rw [q]; exact Heap.lt_size hTO
        · rw [q]; obtain ⟨_, e1, _⟩ := h1.obj; exact Heap.lt_size e1
        · rw [q]; obtain ⟨_, e2, _⟩ := h2.obj; exact Heap.lt_size e2
      rw [upd_ne (Nat.ne_of_lt hlt)]
      exact (hf c hcm).1
  done := by
    intro X hP hw hK hc i pins s σ H E I hf st hg
    subst hP hw hK
    obtain ⟨hz, hTI, ⟨x0, y0, hTO⟩, h1, h2⟩ := st
    obtain ⟨xs, ys, hqx, hqy, hl1, hl2, hend⟩ := hg
    obtain ⟨its, rv, p⟩ := seqG I hqx
    obtain ⟨its2, rv2, p2⟩ := seqG I hqy
    have l1 := rv.length
    have l2 := rv2.length
    obtain ⟨S, n1, n2⟩ : ZipSep2 z TI TO i1 i2 [i1, a] [i2, b] ∧ a ≠ i1 ∧ b ≠ i2 := sep_of D I hf hqx hqy
    exact wpAny_pyNext_zipD2_end S (draws_g (prog := X.prog) (w := X.w) (A := X.A.in1) (I.ok.hd hc) b1 i1 a n1 its.toArray) (draws_g (prog := X.prog) (w := X.w) (A := X.A.in1) (I.ok.hd hc) b2 i2 b n2 its2.toArray) hz hTI hTO ⟨h1, p⟩ ⟨h2, p2⟩ (by simp; omega) (by simp; omega) (by simp; omega) fun h' tk hk => ⟨rfl, I.turnedL (t' := tk) (ch := [z, TI, TO, i1, i2]) (fun c o hb q =>
      hk c o (fun q' => hb (by simp [q'])) (fun q' => hb (by simp [q'])) (fun q' => hb (by simp [q'])) (fun q' => hb (by simp [q'])) q) hf⟩
  self := fun A i s Q E st h => wpAny_pyIter_zip st.1 h
def iZipG (K : PySem.W.Frag) (ta : TA) : TI := fun σ H R => ta σ H fun vs H1 => ∃ b1 b2 a b xs ys, vs = [.ref a, .ref b] ∧ SqG K H1 b1 a xs ∧ SqG K H1 b2 b ys ∧ R (ItzG K b1 b2 a b) H1
theorem pi_zipG {X : Cx} {e e2 : Expr} {ta : TA} {p pos tpos : Pos} {elts : List Expr} {kk : Nat} (hg : Gl X "zip") (hm : X.mg "zip" = none) (ha : PA X [e, e2] ta)
    (hs : starEach [e, e2] X.env = (false, eval e X.env) :: starEach [e2] X.env := by rfl) (hpl : (backTo pos (starEach [e2] X.env)).any (·.1) = false := by rfl) :
    PI X (.Tuple elts kk tpos) (.Call (.Name "zip" p) [e, e2] [] pos) (iZipG X.K ta) := by
  refine ⟨fun pins s σ H R I h => ?_⟩
  refine Call_ (ld_blt I hg hm PyProof.Rows.boot_zip (PyProof.Rows.callWith_type1 (thn (ha.run pos pins s σ H _ I h) fun us s1 ⟨vs, H1, I1, r1, q1⟩ => ?_) hs hpl))
  obtain ⟨b1, b2, a, b, xs, ys, ex, hqx, hqy, q⟩ := q1
  subst ex
  cases r1 with
  | cons r rr =>
    cases rr with
    | cons r' rr =>
      cases rr
      cases r
      cases r'
      have fresh5 : ∀ c, c ∈ [s1.heap.objs.size + 4, s1.heap.objs.size + 2, s1.heap.objs.size + 3, s1.heap.objs.size, s1.heap.objs.size + 1] → FpOk X pins H1 c := fun c hcm => by
        have e' : c = s1.heap.objs.size + 4 ∨ c = s1.heap.objs.size + 2 ∨ c = s1.heap.objs.size + 3 ∨ c = s1.heap.objs.size ∨ c = s1.heap.objs.size + 1 := by simpa using hcm
        have hle : s1.heap.objs.size ≤ c := by
          rcases e' with z | z | z | z | z
          · rw [z]; exact Nat.le_add_right _ _
          · rw [z]; exact Nat.le_add_right _ _
          · rw [z]; exact Nat.le_add_right _ _
          · rw [z]; exact Nat.le_refl _
          · rw [z]; exact Nat.le_add_right _ _
        exact I1.fpOk hle (I1.hok.fresh hle)
      obtain ⟨its, rv, p1⟩ := seqG I1 hqx
      obtain ⟨its2, rv2, p2⟩ := seqG I1 hqy
      refine zip_begins2 (begins_g b1 a its.toArray) (begins_g b2 b its2.toArray) p1 p2 fun h' hz hTI hTO h1 h2 hsz hk => wpAny_pyIter_zip hz ?_
      have I2 : Inv X pins σ H1 { s1 with heap := h' } := I1.kept (t' := s1.toks) hk
      exact ⟨s1.heap.objs.size + 4, [s1.heap.objs.size + 4, s1.heap.objs.size + 2, s1.heap.objs.size + 3, s1.heap.objs.size, s1.heap.objs.size + 1], _, _, H1, rfl, I2, turn_zipG b1 b2 (za_new s1.heap.objs.size), ⟨hz, hTI, ⟨_, _, hTO⟩, ItG.zero h1, ItG.zero h2⟩, fresh5, q⟩
end EV

namespace EV
open PySem L2
/-! ### what is walked: enumerate, zip -/
section
variable {K : PySem.W.Frag} {M : Mx} {Z : Cxt} {W : Wd} {σd : Sg} {z : Sto} {σ : St} {H : Hp}
/-- a sequence's data, as an operand's value tells -/
theorem SqG.mo {W' : Wd} {H' : Hp} (m : Mo W H W' H') {b : Bool} {a : Addr} {vs : List V} (h : (b = true ∧ W.F a ∧ H a = some (.lst vs)) ∨ (b = false ∧ SqT K H a vs)) : SqG K H' b a vs := by
  rcases h with ⟨rfl, f, e⟩ | ⟨rfl, e⟩
  · exact SqL.of (m.keepF a _ f e)
  · exact SqT.mo m e
theorem seq_inj_l {a : Addr} {xs ys : List V} (e : H a = some (.lst xs)) (h : SqL K H a ys) (nk : K.lookup a = none) : xs = ys := by
  rcases h with (h | ⟨o, h⟩) | ⟨o, _, _, k, _⟩
  · have h : H a = some _ := h
    rw [e] at h; cases h; rfl
  · rw [e] at h; cases h
  · rw [nk] at k; cases k
theorem it_enumG {b : Bool} {a : Addr} {vs : List V} {ds : List D} (q : (b = true ∧ W.F a ∧ H a = some (.lst vs)) ∨ (b = false ∧ SqT K H a vs)) (r : Rps K W H vs ds) : ItOk K W H (.l (ds.zipIdx.map fun p => .tup [.int p.2, p.1])) (IteG K b a) := by
  refine ⟨fun i W' H' m h h2 => ⟨vs, SqG.mo m q, ?_⟩, fun i W' H' d m h => ?_⟩
  · have e : (Iv.l (ds.zipIdx.map fun p => D.tup [.int p.2, p.1])).len = ds.length := by
      show (ds.zipIdx.map fun p => D.tup [.int p.2, p.1]).length = _
      rw [List.length_map, List.length_zipIdx]
    rw [e] at h h2
    rw [r.len]; omega
  obtain ⟨x0, hx0, rfl⟩ := zipIdx_get (show (ds.zipIdx.map fun p => D.tup [.int p.2, p.1])[i]? = some d from h)
  obtain ⟨v, hv, rv⟩ := r.get hx0
  refine ⟨⟨vs, v, SqG.mo m q, hv⟩, fun x H'' y => ?_⟩
  obtain ⟨T, x1, rfl, hT, rfl, y⟩ := y
  have := y vs (SqG.mo m q)
  rw [hv] at this; cases this
  have sm : Same H' (upd H' T (.tup [.int (i : Nat), v])) := Same.new hT
  exact ⟨sm, T, _, rfl, SqT.of upd_same, rfl, Rp.mo (Le.same sm).toMo _ _ (Rp.mo m _ _ rv), trivial⟩
theorem zip_get {xs ys : List D} {i : Nat} {d : D} (h : ((xs.zip ys).map fun p => D.tup [p.1, p.2])[i]? = some d) : ∃ x y, xs[i]? = some x ∧ ys[i]? = some y ∧ d = .tup [x, y] := by
  rw [List.getElem?_map] at h
  obtain ⟨p, hp, rfl⟩ := Option.map_eq_some_iff.mp h
  rw [List.getElem?_zip_eq_some] at hp
  exact ⟨p.1, p.2, hp.1, hp.2, rfl⟩
theorem it_zipG {b1 b2 : Bool} {a1 a2 : Addr} {vs1 vs2 : List V} {ds1 ds2 : List D} (q1 : (b1 = true ∧ W.F a1 ∧ H a1 = some (.lst vs1)) ∨ (b1 = false ∧ SqT K H a1 vs1)) (q2 : (b2 = true ∧ W.F a2 ∧ H a2 = some (.lst vs2)) ∨ (b2 = false ∧ SqT K H a2 vs2)) (r1 : Rps K W H vs1 ds1) (r2 : Rps K W H vs2 ds2) :
    ItOk K W H (.l ((ds1.zip ds2).map fun p => .tup [p.1, p.2])) (ItzG K b1 b2 a1 a2) := by
  refine ⟨fun i W' H' m h h2 => ⟨vs1, vs2, SqG.mo m q1, SqG.mo m q2, ?_⟩, fun i W' H' d m h => ?_⟩
  · have e : (Iv.l ((ds1.zip ds2).map fun p => D.tup [p.1, p.2])).len = min ds1.length ds2.length := by
      show ((ds1.zip ds2).map fun p => D.tup [p.1, p.2]).length = _
      rw [List.length_map, List.length_zip]
    rw [e] at h h2
    rw [r1.len, r2.len]; omega
  obtain ⟨x0, y0, hx0, hy0, rfl⟩ := zip_get (show ((ds1.zip ds2).map fun p => D.tup [p.1, p.2])[i]? = some d from h)
  obtain ⟨v, hv, rv⟩ := r1.get hx0
  obtain ⟨u, hu, ru⟩ := r2.get hy0
  refine ⟨⟨vs1, vs2, v, u, SqG.mo m q1, SqG.mo m q2, hv, hu⟩, fun x H'' y => ?_⟩
  obtain ⟨T, x1, y1, rfl, hT, rfl, y, y2⟩ := y
  have := y vs1 (SqG.mo m q1)
  rw [hv] at this; cases this
  have := y2 vs2 (SqG.mo m q2)
  rw [hu] at this; cases this
  have sm : Same H' (upd H' T (.tup [v, u])) := Same.new hT
  exact ⟨sm, T, _, rfl, SqT.of upd_same, Rp.mo (Le.same sm).toMo _ _ (Rp.mo m _ _ rv), Rp.mo (Le.same sm).toMo _ _ (Rp.mo m _ _ ru), trivial⟩
theorem sq_of {v : V} {d : D} {ds : List D} (h : d = .lst ds ∨ d = .tup ds) (r : Rp K W H v d) : ∃ b a vs, v = .ref a ∧ ((b = true ∧ W.F a ∧ H a = some (.lst vs)) ∨ (b = false ∧ SqT K H a vs)) ∧ Rps K W H vs ds := by
  rcases h with rfl | rfl
  · obtain ⟨a, vs, rfl, f, q, r⟩ := r
    exact ⟨true, a, vs, rfl, .inl ⟨rfl, f, q⟩, r⟩
  · obtain ⟨a, vs, rfl, q, r⟩ := r
    exact ⟨false, a, vs, rfl, .inr ⟨rfl, q⟩, r⟩
theorem sI_enum {X : Cx} {e : PySem.Expr} {p pos tpos : PySem.Pos} {elts : List PySem.Expr} {kk : Nat} {c : C} (hb : isBor c = false) (hs : nostar e = true) (hg : Gl X "enumerate") (hm : X.mg "enumerate" = none) (h : PE X e (tE X.K M Z c)) :
    PI X (.Tuple elts kk tpos) (.Call (.Name "enumerate" p) [e] [] pos) (tI X.K M Z (.enum c)) := by
  refine (pi_enumG hg hm (pa_cons h pa_nil (star_no hs _ _)) (star_no hs _ _)).evi fun σ H R q => ?_
  obtain ⟨W, σd, z, b, p⟩ := q
  refine ⟨W, σd, z, b, (Post.of_bind p).mono fun d z1 W1 H1 l1 b1 p1 v r => ?_⟩
  have r := (Rpx_no hb).mp r
  have go : ∀ ds, (d = .lst ds ∨ d = .tup ds) → (∀ J, ItOk X.K W1 H1 (.l (ds.zipIdx.map fun p => .tup [.int p.2, p.1])) J → R J H1) → ∃ b a xs, [v] = [V.ref a] ∧ SqG X.K H1 b a xs ∧ R (IteG X.K b a) H1 := fun ds hd k => by
    obtain ⟨b, a, vs, rfl, q, rv⟩ := sq_of hd r
    exact ⟨b, a, vs, rfl, SqG.mo Mo.refl q, k _ (it_enumG q rv)⟩
  cases d with
  | lst ds => exact go ds (.inl rfl) (p1 W1 H1 Le.refl b1)
  | tup ds => exact go ds (.inr rfl) (p1 W1 H1 Le.refl b1)
  | _ => exact p1.elim
theorem sI_zip {X : Cx} {e e2 : PySem.Expr} {p pos tpos : PySem.Pos} {elts : List PySem.Expr} {kk : Nat} {c c2 : C} (hb : isBor c = false) (hb2 : isBor c2 = false) (hs : nostar e = true) (hs2 : nostar e2 = true) (hg : Gl X "zip") (hm : X.mg "zip" = none) (h : PE X e (tE X.K M Z c)) (h2 : PE X e2 (tE X.K M Z c2)) :
    PI X (.Tuple elts kk tpos) (.Call (.Name "zip" p) [e, e2] [] pos) (tI X.K M Z (.zip c c2)) := by
  refine (pi_zipG hg hm (pa_cons h (pa_cons h2 pa_nil (star_no hs2 _ _)) (star_no hs _ _)) (star_no hs _ _) (by rw [star_no hs2]; rfl)).evi fun σ H R q => ?_
  obtain ⟨W, σd, z, b, p⟩ := q
  refine ⟨W, σd, z, b, (Post.of_bind p).mono fun d z1 W1 H1 l1 b1 p1 v r => ⟨W1, σd, z1, b1, (Post.of_bind p1).mono fun d2 z2 W2 H2 l2 b2 p2 v2 r2 => ?_⟩⟩
  have r := Rp.mo l2.toMo _ _ ((Rpx_no hb).mp r)
  have r2 := (Rpx_no hb2).mp r2
  have go : ∀ ds ds2, (d = .lst ds ∨ d = .tup ds) → (d2 = .lst ds2 ∨ d2 = .tup ds2) → (∀ J, ItOk X.K W2 H2 (.l ((ds.zip ds2).map fun p => .tup [p.1, p.2])) J → R J H2) → ∃ b1 b2 a b xs ys, [v, v2] = [V.ref a, V.ref b] ∧ SqG X.K H2 b1 a xs ∧ SqG X.K H2 b2 b ys ∧ R (ItzG X.K b1 b2 a b) H2 := fun ds ds2 hd hd2 k => by
    obtain ⟨b, a, vs, rfl, q, rv⟩ := sq_of hd r
    obtain ⟨b2, a2, vs2, rfl, q2, rv2⟩ := sq_of hd2 r2
    exact ⟨b, b2, a, a2, vs, vs2, rfl, SqG.mo Mo.refl q, SqG.mo Mo.refl q2, k _ (it_zipG q q2 rv rv2)⟩
  cases d with
  | lst ds => cases d2 with
    | lst ds2 => exact go ds ds2 (.inl rfl) (.inl rfl) (p2 W2 H2 Le.refl b2)
    | tup ds2 => exact go ds ds2 (.inl rfl) (.inr rfl) (p2 W2 H2 Le.refl b2)
    | _ => exact p2.elim
  | tup ds => cases d2 with
    | lst ds2 => exact go ds ds2 (.inr rfl) (.inl rfl) (p2 W2 H2 Le.refl b2)
    | tup ds2 => exact go ds ds2 (.inr rfl) (.inr rfl) (p2 W2 H2 Le.refl b2)
    | _ => exact p2.elim
  | _ => exact p2.elim
end
/-! ### the context of a body, of a block -/
structure Gi where
  nm : List (Option Str)
  cn : List Str
  mn : List Str
  gc : Bool
  cl : List Str
  an : List Str
  at_ : List (Nat × Nat)
  ms : List (Nat × Str × Nat)
  mks : List (Nat × Nat)
  xc : List (Str × List Str) := []
  xh : List Str := []
  xm : List (List Bool) := []
  dn : List (Str × List (List Nat × Int)) := []
  kw : List (Nat × Nat × List Str) := []
  is_ : List Nat := []
/-- a class, asked for by isinstance -/
structure IsAt (X : Cx) (M : Mx) (c : Nat) (x : Str) : Prop where
  ex : ∃ C, M.W0.S.cl c = some C ∧ X.mg x = some (.ref C) ∧ Cls X.K C ∧ PySem.W.findIn X.K (.ref C) "__class__" = some (some (.builtin "object.__class__")) ∧ PySem.W.specialIn X.K (.builtin "object.__class__") "__get__" = some (some (.builtin "getset_descriptor.__get__")) ∧
    PySem.W.takesIn X.K (.builtin "object.__class__") = some true ∧ PySem.W.mroIn X.K C (.type "object") = some true ∧ ∀ t ∈ ["NoneType", "bool", "int", "str", "tuple", "list"], PySem.W.kitOne X.K (.type t) (.ref C) = some false
/-- a class made by keywords alone -/
structure MakeKAt (X : Cx) (M : Mx) (Z : Cxt) (c f : Nat) (x : Str) (ks : List Str) : Prop where
  ex : ∃ C k adr fd ps, M.W0.S.cl c = some C ∧ X.mg x = some (.ref C) ∧ Mk X.K C adr ∧ FnOk X.prog X.w X.K X.mg X.base (L2.CX X.prog X.w) k adr fd ps (spF X.K M.W0.S Z.cl M.xr f) ∧ Room (k + 1) X.A ∧ KBn X.K fd ps 1 ks (fun us ws => us ++ ws) (fun us ws => us ++ ws)
/-- a written dict of texts -/
structure DictAt (X : Cx) (x : Str) (kvs : List (List Nat × Int)) : Prop where
  ex : ∃ a, X.mg x = some (.ref a) ∧ (∃ dd es n sl, X.K.lookup a = some ⟨.type "dict", dd, .dict es n, sl⟩ ∧ dd = none) ∧ (a == PySem.sysModules) = false ∧ ∀ s i, kvs.lookup s = some i → KDct X.K X.w a ⟨s.toArray⟩ (.int i)
structure Gud (X : Cx) (M : Mx) (Z : Cxt) (G : Gi) (N : List Str) (sc : PySem.Scope) : Prop where
  good : Good X N sc
  tk : Takes X M.wx
  fns : ∀ f x, G.nm[f]? = some (some x) → FnAt X M Z f x
  con : ∀ (j : Nat) (x : Str), G.cn[j]? = some x → ∃ v u, X.mg x = some u ∧ RelV v u ∧ ∀ d, Z.con[j]? = some d → ∀ W H, Rp X.K W H v d
  mn : ∀ x ∈ G.mn, X.mg x = none
  gc : G.gc = true → X.mg "gcd" = some (.builtin "math.gcd")
  att : ∀ c k f, (c, k) ∈ G.at_ → G.an[k]? = some f → AttAt X M c k f
  mth : ∀ c m f, (c, m, f) ∈ G.ms → MethAt X M Z c f m
  mkc : ∀ c f x, (c, f) ∈ G.mks → G.cl[c]? = some x → MakeAt X M Z c f x
  xr : M.xr = xrOf G.xc X.K
  rs : ∀ (c : Nat) (x : Str) (ns : List Str), G.xc[c]? = some (x, ns) → RaiseAt X x ns
  xf : ∀ (c : Nat) (x : Str) (ns : List Str), G.xc[c]? = some (x, ns) → XfAt X.K x ns
  xh : ∀ (h : Nat) (y : Str), G.xh[h]? = some y → X.mg y = some (.ref (He.ga X.K y))
  xm : ∀ (h : Nat) (y : Str) (tb : List Bool) (c : Nat) (x : Str) (ns : List Str), G.xh[h]? = some y → G.xm[h]? = some tb → G.xc[c]? = some (x, ns) → PySem.W.exmOne X.K (.ref (He.ga X.K x)) (.ref (He.ga X.K y)) = some (tb.getD c false)
  mkk : ∀ c f ks x, (c, f, ks) ∈ G.kw → G.cl[c]? = some x → MakeKAt X M Z c f x ks
  dn : ∀ (j : Nat) (x : Str) (kvs : List (List Nat × Int)), G.dn[j]? = some (x, kvs) → DictAt X x kvs
  isa : ∀ (c : Nat) (x : Str), c ∈ G.is_ → G.cl[c]? = some x → IsAt X M c x
theorem lookup_relS_fr {sc : PySem.Scope} : ∀ {names : List (Str × PySem.NameKind)} {x : Str}, names.lookup x = some .free →
    (names.map fun (n, k) => if (k == PySem.NameKind.free && sc.kind == .function && sc.names.lookup n == some .cell) then (n, PySem.NameKind.cell) else (n, k)).lookup x = some .free ∨ (names.map fun (n, k) => if (k == PySem.NameKind.free && sc.kind == .function && sc.names.lookup n == some .cell) then (n, PySem.NameKind.cell) else (n, k)).lookup x = some .cell
  | [], _, h => by simp at h
  | (n, k₀) :: r, x, h => by
    have ih := @lookup_relS_fr sc r x
    show List.lookup x ((if (k₀ == PySem.NameKind.free && sc.kind == .function && sc.names.lookup n == some .cell) = true then (n, PySem.NameKind.cell) else (n, k₀)) :: (r.map _)) = some .free ∨ List.lookup x ((if (k₀ == PySem.NameKind.free && sc.kind == .function && sc.names.lookup n == some .cell) = true then (n, PySem.NameKind.cell) else (n, k₀)) :: (r.map _)) = some .cell
    cases hx : x == n with
    | true =>
      simp only [List.lookup_cons, hx] at h
      cases h
      by_cases hc : (PySem.NameKind.free == PySem.NameKind.free && sc.kind == .function && sc.names.lookup n == some .cell) = true
      · rw [if_pos hc]; simp [List.lookup_cons, hx]
      · rw [if_neg hc]; simp [List.lookup_cons, hx]
    | false =>
      simp only [List.lookup_cons, hx] at h
      by_cases hc : (k₀ == PySem.NameKind.free && sc.kind == .function && sc.names.lookup n == some .cell) = true
      · rw [if_pos hc]; simp only [List.lookup_cons, hx]; exact ih h
      · rw [if_neg hc]; simp only [List.lookup_cons, hx]; exact ih h
section
variable {X : Cx} {M : Mx} {Z : Cxt} {G : Gi} {N : List Str} {sc scope : PySem.Scope}
theorem Gud.blk (g : Gud X M Z G N sc) (s : PySem.Shared) (H : Hp) (C : Addr) (cl : List (Str × Addr)) (fp : List Addr) :
    Gud (X.blk s H scope (compEnvC scope cl C X.env) fp) (noW M) Z G N scope := by
  refine ⟨⟨g.good.hN, g.good.nd, g.good.calm, fun x h => ?_, fun x h => ⟨?_, ?_⟩, fun x h => ?_, fun x h => ?_, g.good.hu⟩, fun u s' x => ?_, fun f x h => ⟨(g.fns f x h).ex⟩, g.con, g.mn, g.gc, fun c k f h e => ⟨(g.att c k f h e).ex⟩, fun c m f h => ⟨(g.mth c m f h).ex⟩, fun c f x h e => ⟨(g.mkc c f x h e).ex⟩, g.xr, fun c x ns e => ⟨(g.rs c x ns e).ex⟩, g.xf, g.xh, g.xm, fun c f ks x h e => ⟨(g.mkk c f ks x h e).ex⟩, fun j x kvs e => ⟨(g.dn j x kvs e).ex⟩, fun c x h e => ⟨(g.isa c x h e).ex⟩⟩
  · exact lookup_relS_keep (sc := X.env.scope) (by decide) h
  · exact lookup_relS_keep (sc := X.env.scope) (by decide) h
  · show (scope.names.lookup x == some PySem.NameKind.cell) = true
    rw [h]; rfl
  · exact lookup_relS_fr (sc := X.env.scope) h
  · exact lookup_relS_keep (sc := X.env.scope) (by decide) h
  · obtain ⟨_, _, _, _, _, _, _, _, _, _, _, _, _, _, _, _, f⟩ := x
    exact f.elim
/-- the same context within a try -/
theorem Gud.tr (g : Gud X M Z G N sc) {W : WX} {ps : List (Addr × PySem.Obj)} {xe : PySem.Value → PySem.Shared → Prop} (tk : Takes (X.tr ps xe) W) : Gud (X.tr ps xe) { M with wx := W } Z G N sc :=
  ⟨⟨g.good.hN, g.good.nd, g.good.calm, g.good.lc, g.good.ce, g.good.fr, g.good.gl, g.good.hu⟩, tk, fun f x h => ⟨(g.fns f x h).ex⟩, g.con, g.mn, g.gc, fun c k f h e => ⟨(g.att c k f h e).ex⟩, fun c m f h => ⟨(g.mth c m f h).ex⟩, fun c f x h e => ⟨(g.mkc c f x h e).ex⟩,
    g.xr, fun c x ns e => ⟨(g.rs c x ns e).ex⟩, g.xf, g.xh, g.xm, fun c f ks x h e => ⟨(g.mkk c f ks x h e).ex⟩, fun j x kvs e => ⟨(g.dn j x kvs e).ex⟩, fun c x h e => ⟨(g.isa c x h e).ex⟩⟩
theorem Gud.blkOk {own : List (Str × Nat)} (g : Gud X M Z G N sc) (h : blkC N sc scope own = true) : BlkOk X.N X.env.scope scope own := by
  have b := blkOk_by h
  rw [g.good.hN]
  exact ⟨b.kind, b.uniq, b.ix, fun y hy e => by
    rcases b.free y hy e with k | k
    · exact .inl (g.good.ce _ k).1
    · exact (g.good.fr _ k).symm, b.own⟩
theorem fold_no {iter : PySem.Expr} (h : noset iter = true) (env : PySem.Env) (x : PySem.Value) : foldedSetIterable iter env x = pure x := by
  cases iter <;> first | rfl | exact nomatch h
theorem sN_comp {tg iter elt : PySem.Expr} {ifs : List PySem.Expr} {own : List (Str × Nat)} {t : Tg} {it : I} {c e : C} {pos : PySem.Pos} {tt : TT} (g : Gud X M Z G N sc) (hb : blkC N sc scope own = true) (hown : own.map (·.2) = t.slots) (hno : noset iter = true)
    (he : isBor e = false) (htt : ∀ σ H R, tB X.K (noW M) Z c σ H R → tt σ H R) (hi : PI X tg iter (tI X.K M Z it))
    (hg : ∀ X', X'.K = X.K → Gud X' (noW M) Z G N scope → PG X' tg (gT X.K t)) (ht : ∀ X', X'.K = X.K → Gud X' (noW M) Z G N scope → PTs X' ifs tt) (hel : ∀ X', X'.K = X.K → Gud X' (noW M) Z G N scope → PE X' elt (tE X.K (noW M) Z e)) :
    PE X (.ListComp elt [⟨tg, iter, ifs, 0⟩] scope pos) (tN X.K M Z (.compI t it c e)) :=
  (pe_lc g.good.calm (by rw [g.good.hN]; exact g.good.nd) hi (g.blkOk hb) (fun s H C cl fp => hg _ rfl (g.blk s H C cl fp)) (fun s H C cl fp => ht _ rfl (g.blk s H C cl fp)) (fun s H C cl fp => hel _ rfl (g.blk s H C cl fp)) (fold_no hno _)).evi
    fun σ H Q h => by
      rw [hown]
      exact lc_read he htt h
theorem sS_comp {tg iter elt : PySem.Expr} {ifs : List PySem.Expr} {own : List (Str × Nat)} {t : Tg} {it : I} {c e : C} {pos spos py : PySem.Pos} {tt : TT} {i : Nat} {y : Str} (g : Gud X M Z G N sc) (hb : blkC N sc scope own = true) (hown : own.map (·.2) = t.slots) (hno : noset iter = true)
    (he : isBor e = false) (htt : ∀ σ H R, tB X.K (noW M) Z c σ H R → tt σ H R) (hi : PI X tg iter (tI X.K M Z it))
    (hg : ∀ X', X'.K = X.K → Gud X' (noW M) Z G N scope → PG X' tg (gT X.K t)) (ht : ∀ X', X'.K = X.K → Gud X' (noW M) Z G N scope → PTs X' ifs tt) (hel : ∀ X', X'.K = X.K → Gud X' (noW M) Z G N scope → PE X' elt (tE X.K (noW M) Z e))
    (hy : N[i]? = some y) (hl : sc.names.lookup y = some .local) (hk : X.env.scope.kind = .function) (hline : (py.line == pos.line) = true) (ha : (scope.names.any fun (n, k) => n == y && (k == .local || k == .cell)) = false) :
    PS X (.Assign [.Name y py] (.ListComp elt [⟨tg, iter, ifs, 0⟩] scope pos) spos) (tAsg (tN X.K M Z (.compI t it c e)) (gName i)) :=
  (ps_setLc g.good.calm (by rw [g.good.hN]; exact g.good.nd) (by rw [g.good.hN]; exact hy) (g.good.lc _ hl) (sw_true hk (g.good.lc _ hl) hline ha) hi (g.blkOk hb) (fun s H C cl fp => hg _ rfl (g.blk s H C cl fp)) (fun s H C cl fp => ht _ rfl (g.blk s H C cl fp)) (fun s H C cl fp => hel _ rfl (g.blk s H C cl fp)) (fold_no hno _)).evi
    fun D σ H h => by
      have h : tN X.K M Z (.compI t it c e) σ H (fun x H1 => gName i x σ H1 D.nx) := h
      show tLc _ _ _ _ _ σ H (fun x H1 => gName i x σ H1 D.nx)
      rw [hown]
      exact lc_read he htt h
theorem sN_comp2 {tg iter tg2 iter2 elt : PySem.Expr} {own : List (Str × Nat)} {t t2 : Tg} {it it2 : I} {e : C} {pos : PySem.Pos} (g : Gud X M Z G N sc) (hb : blkC N sc scope own = true) (hown : own.map (·.2) = t.slots ++ t2.slots) (hno : noset iter = true) (hno2 : noset iter2 = true)
    (he : isBor e = false) (hi : PI X tg iter (tI X.K M Z it))
    (hg : ∀ X', X'.K = X.K → Gud X' (noW M) Z G N scope → PG X' tg (gT X.K t)) (hi2 : ∀ X', X'.K = X.K → Gud X' (noW M) Z G N scope → PI X' tg2 iter2 (tI X.K (noW M) Z it2)) (hg2 : ∀ X', X'.K = X.K → Gud X' (noW M) Z G N scope → PG X' tg2 (gT X.K t2)) (hel : ∀ X', X'.K = X.K → Gud X' (noW M) Z G N scope → PE X' elt (tE X.K (noW M) Z e)) :
    PE X (.ListComp elt [⟨tg, iter, [], 0⟩, ⟨tg2, iter2, [], 0⟩] scope pos) (tN X.K M Z (.comp2 t it t2 it2 e)) :=
  (pe_lc2 (vs1 := t2.slots) g.good.calm (by rw [g.good.hN]; exact g.good.nd) hi (g.blkOk hb) (fun i hi => by rw [hown]; exact List.mem_append_right _ hi) (fun s H C cl fp => hg _ rfl (g.blk s H C cl fp)) (fun s H C cl fp => pts_nil) (fun s H C cl fp => hi2 _ rfl (g.blk s H C cl fp)) (fun s H C cl fp => hg2 _ rfl (g.blk s H C cl fp)) (fun s H C cl fp => pts_nil) (fun s H C cl fp => hel _ rfl (g.blk s H C cl fp)) (fold_no hno _) (fun env => fold_no hno2 env)).evi
    fun σ H Q h => by
      rw [hown]
      exact lc2_read he h
theorem sS_comp2 {tg iter tg2 iter2 elt : PySem.Expr} {own : List (Str × Nat)} {t t2 : Tg} {it it2 : I} {e : C} {pos spos py : PySem.Pos} {i : Nat} {y : Str} (g : Gud X M Z G N sc) (hb : blkC N sc scope own = true) (hown : own.map (·.2) = t.slots ++ t2.slots) (hno : noset iter = true) (hno2 : noset iter2 = true)
    (he : isBor e = false) (hi : PI X tg iter (tI X.K M Z it))
    (hg : ∀ X', X'.K = X.K → Gud X' (noW M) Z G N scope → PG X' tg (gT X.K t)) (hi2 : ∀ X', X'.K = X.K → Gud X' (noW M) Z G N scope → PI X' tg2 iter2 (tI X.K (noW M) Z it2)) (hg2 : ∀ X', X'.K = X.K → Gud X' (noW M) Z G N scope → PG X' tg2 (gT X.K t2)) (hel : ∀ X', X'.K = X.K → Gud X' (noW M) Z G N scope → PE X' elt (tE X.K (noW M) Z e))
    (hy : N[i]? = some y) (hl : sc.names.lookup y = some .local) (hk : X.env.scope.kind = .function) (hline : (py.line == pos.line) = true) (ha : (scope.names.any fun (n, k) => n == y && (k == .local || k == .cell)) = false) :
    PS X (.Assign [.Name y py] (.ListComp elt [⟨tg, iter, [], 0⟩, ⟨tg2, iter2, [], 0⟩] scope pos) spos) (tAsg (tN X.K M Z (.comp2 t it t2 it2 e)) (gName i)) :=
  (ps_setLc2 (vs1 := t2.slots) g.good.calm (by rw [g.good.hN]; exact g.good.nd) (by rw [g.good.hN]; exact hy) (g.good.lc _ hl) (sw_true hk (g.good.lc _ hl) hline ha) hi (g.blkOk hb) (fun i hi => by rw [hown]; exact List.mem_append_right _ hi) (fun s H C cl fp => hg _ rfl (g.blk s H C cl fp)) (fun s H C cl fp => pts_nil) (fun s H C cl fp => hi2 _ rfl (g.blk s H C cl fp)) (fun s H C cl fp => hg2 _ rfl (g.blk s H C cl fp)) (fun s H C cl fp => pts_nil) (fun s H C cl fp => hel _ rfl (g.blk s H C cl fp)) (fold_no hno _) (fun env => fold_no hno2 env)).evi
    fun D σ H h => by
      have h : tN X.K M Z (.comp2 t it t2 it2 e) σ H (fun x H1 => gName i x σ H1 D.nx) := h
      show tLc2 _ _ _ _ _ _ _ _ _ σ H (fun x H1 => gName i x σ H1 D.nx)
      rw [hown]
      exact lc2_read he h
end
end EV

namespace EV
open PySem L2
section
variable (K : PySem.W.Frag) (M : Mx)
/-- a way out -/
def FlQ (W : Wd) (H : Hp) (D : Ends) (fl : Fl) (z : Sto) : Prop := match fl with
  | .nx σd => ∀ W' σ' H', Mo W H W' H' → BIm K M W' σd z σ' H' → D.nx σ' H'
  | .rt d => ∀ v W' H', Le M.W0 M.H0 W' H' → SR K W' H' z → Rp K W' H' v d → D.rt v H'
  | .bk σd => ∀ W' σ' H', Mo W H W' H' → BIm K M W' σd z σ' H' → D.bk σ' H'
  | .ct σd => ∀ W' σ' H', Mo W H W' H' → BIm K M W' σd z σ' H' → D.ct σ' H'
  | .xx x σd => ∀ c dd W' σ' H', BIm K M W' σd z σ' H' → M.xr x c dd H' → M.wx c dd σ' H'
def PostS (W : Wd) (H : Hp) (r : Res Fl) (D : Ends) : Prop := match r with
  | .ok fl z => FlQ K M W H D fl z
  | .exn _ _ => False
  | .err => False
variable (Z : Cxt)
def tS (s : S) : TS := fun D σ H => ∃ W σd z, BIm K M W σd z σ H ∧ PostS K M W H (evS Z s σd z) D
def tSs (ss : Ss) : TS := fun D σ H => ∃ W σd z, BIm K M W σd z σ H ∧ PostS K M W H (evSs Z ss σd z) D
end
section
variable {K : PySem.W.Frag} {M : Mx} {Z : Cxt} {W W' : Wd} {σd : Sg} {z : Sto} {σ : St} {H H' : Hp} {D D' : Ends}
theorem FlQ.mo {fl : Fl} (h : FlQ K M W H D fl z) (m : Mo W H W' H') : FlQ K M W' H' D fl z := by
  cases fl with
  | nx σd => exact fun W2 σ2 H2 m2 b => h W2 σ2 H2 (m.trans m2) b
  | rt d => exact h
  | bk σd => exact fun W2 σ2 H2 m2 b => h W2 σ2 H2 (m.trans m2) b
  | ct σd => exact fun W2 σ2 H2 m2 b => h W2 σ2 H2 (m.trans m2) b
  | xx x σd => exact h
theorem PostS.mo {r : Res Fl} (h : PostS K M W H r D) (m : Mo W H W' H') : PostS K M W' H' r D := by
  cases r with
  | ok fl z => exact FlQ.mo h m
  | exn _ _ => exact h
  | err => exact h
theorem PostS.of_bS {α : Type} {r : Res α} {f : α → Sto → Res Fl} (h : PostS K M W H (bS r σd f) D) : Post K M W σd σ H r fun a z W' H' => PostS K M W' H' (f a z) D := by
  cases r with
  | ok a z => exact fun W' H' l b => PostS.mo h l.toMo
  | exn x z => exact fun c dd W' H' l b => h c dd W' σ H' b
  | err => exact h
/-- a statement that begins with an expression -/
theorem tS_of {c : C} {f : EV.D → Sto → Res Fl} (b : BIm K M W σd z σ H) (h : PostS K M W H (bS (evE Z c σd z) σd f) D) {Q : VK} (q : ∀ d z' W' H' v, Le W H W' H' → BIm K M W' σd z' σ H' → Rpx K c W' σd σ H' v d → PostS K M W' H' (f d z') D → Q v H') : tE K M Z c σ H Q :=
  ⟨W, σd, z, b, (PostS.of_bS h).mono fun d z' W' H' l b' p v r => q d z' W' H' v l b' r p⟩
theorem tSN_of {c : C} {f : EV.D → Sto → Res Fl} (b : BIm K M W σd z σ H) (h : PostS K M W H (bS (evE Z c σd z) σd f) D) {Q : VK} (q : ∀ d z' W' H' v, Le W H W' H' → BIm K M W' σd z' σ H' → RpN K H W' H' v d → PostS K M W' H' (f d z') D → Q v H') : tN K M Z c σ H Q :=
  ⟨W, σd, z, b, (PostS.of_bS h).mono fun d z' W' H' l b' p v r => q d z' W' H' v l b' r p⟩
/-! ### blocks -/
theorem sSs_nil {X : Cx} : PSs X [] (tSs K M Z .nil) := pss_nil.evi fun D σ H ⟨W, σd, z, b, p⟩ => p W σ H Mo.refl b
theorem sSs_cons {X : Cx} {st : PySem.Stmt} {rest : List PySem.Stmt} {s : S} {ss : Ss} (h1 : PS X st (tS K M Z s)) (h2 : PSs X rest (tSs K M Z ss)) : PSs X (st :: rest) (tSs K M Z (.cons s ss)) := by
  refine (pss_cons h1 h2).evi fun D σ H h => ?_
  obtain ⟨W, σd, z, b, p⟩ := h
  refine ⟨W, σd, z, b, ?_⟩
  unfold evSs at p
  cases e : evS Z s σd z with
  | err => rw [e] at p; exact p.elim
  | exn x z' => rw [e] at p; exact p.elim
  | ok fl z' =>
    rw [e, Res.bind_ok] at p
    cases fl with
    | nx σ1 => exact fun W' σ' H' m b' => ⟨W', σ1, z', b', PostS.mo p m⟩
    | rt d => exact p
    | bk σ1 => exact p
    | ct σ1 => exact p
    | xx x σ1 => exact p
theorem sSs_doc {X : Cx} {x : PySem.Str} {j} {pos pos' : PySem.Pos} {rest : List PySem.Stmt} {ss : Ss} (h : PSs X rest (tSs K M Z ss)) : PSs X (.Expr (.Constant (.str x) j pos) pos' :: rest) (tSs K M Z ss) :=
  (pss_cons ps_doc h).evi fun D σ H q => q
/-! ### small statements -/
theorem sS_pas {X : Cx} {pos : PySem.Pos} : PS X (.Pass pos) (tS K M Z .pas) := ps_pass.evi fun D σ H ⟨W, σd, z, b, p⟩ => p W σ H Mo.refl b
theorem sS_brk {X : Cx} {pos : PySem.Pos} : PS X (.Break pos) (tS K M Z .brk) := ps_break.evi fun D σ H ⟨W, σd, z, b, p⟩ => p W σ H Mo.refl b
theorem sS_cnt {X : Cx} {pos : PySem.Pos} : PS X (.Continue pos) (tS K M Z .cnt) := ps_continue.evi fun D σ H ⟨W, σd, z, b, p⟩ => p W σ H Mo.refl b
theorem sS_retN {X : Cx} {pos : PySem.Pos} : PS X (.Return none pos) (tS K M Z .retN) := ps_retN.evi fun D σ H ⟨W, σd, z, b, p⟩ => p .non W H b.le b.sr rfl
theorem sS_ret {X : Cx} {pos : PySem.Pos} {e : PySem.Expr} {c : C} (hb : isBor c = false) (he : PE X e (tE K M Z c)) : PS X (.Return (some e) pos) (tS K M Z (.ret c)) := by
  refine (ps_ret he).evi fun D σ H h => ?_
  obtain ⟨W, σd, z, b, p⟩ := h
  exact tS_of b p fun d z' W' H' v l b' r p => p v W' H' b'.le b'.sr ((Rpx_no hb).mp r)
def nolc : PySem.Expr → Bool
  | .ListComp _ _ _ _ | .SetComp _ _ _ _ | .DictComp _ _ _ _ _ => false
  | _ => true
theorem sw_no {e : PySem.Expr} (h : nolc e = true) (t : Option PySem.Expr) (l : Nat) (env : PySem.Env) : swapsWith e t l env = pure false := by
  cases e <;> first | rfl | exact nomatch h
theorem sw_cell {elt : PySem.Expr} {gs : List PySem.Comprehension} {scope : PySem.Scope} {pos py : PySem.Pos} {y : Str} {l : Nat} {env : PySem.Env} (hy : env.scope.names.lookup y = some .cell) : swapsWith (.ListComp elt gs scope pos) (some (.Name y py)) l env = pure false := by
  have ky : env.kindOf y = some .cell := hy
  unfold swapsWith
  simp only [ky]
  have : (env.blockKind == PySem.ScopeKind.function && (some PySem.NameKind.cell == some PySem.NameKind.local)) = false := by
    rw [Bool.and_eq_false_iff]; exact .inr rfl
  simp only [this, Bool.false_and]
theorem sS_ex {X : Cx} {pos : PySem.Pos} {e : PySem.Expr} {c : C} (hn : nolc e = true) (he : PE X e (tE K M Z c)) : PS X (.Expr e pos) (tS K M Z (.ex c)) := by
  refine (ps_expr he (sw_no hn _ _ _)).evi fun D σ H h => ?_
  obtain ⟨W, σd, z, b, p⟩ := h
  exact tS_of b p fun d z' W' H' v l b' r p => p W' σ H' Mo.refl b'
/-- name = e, by e's reading -/
theorem tS_set {i : Nat} {c : C} (hb : isBor c = false) {D : Ends} {σ : St} {H : Hp} (h : tS K M Z (.set i c) D σ H) : tE K M Z c σ H (fun x H1 => gName i x σ H1 D.nx) := by
  obtain ⟨W, σd, z, b, p⟩ := h
  exact tS_of b p fun d z' W' H' v l b' r p => p W' _ H' Mo.refl (BI.set b' ((Rpx_no hb).mp r))
theorem BI.setOwn {a : Addr} {vs : List V} {ds : List EV.D} {i : Nat} (b : BIm K M W σd z σ H) (e : H a = some (.lst vs)) (r : Rps K W H vs ds) (nf : ¬ W.F a) (ns : W.s ≠ some a) (nl : a ∉ W.L) (h0 : M.H0 a = none) (no : ¬ OwnA σd σ a) :
    BIm K M W (σd.set i (some (.own ds))) z (σ.set i (some (.ref a))) H := by
  refine ⟨by rw [List.length_set, List.length_set]; exact b.len, fun j sd w h1 h2 => ?_, fun j k a' ds1 es h1 h2 h3 h4 => ?_, b.sr, b.le⟩
  · by_cases q : i = j
    · subst q
      by_cases hi : i < σd.length
      · rw [List.getElem?_set_self hi] at h1
        rw [List.getElem?_set_self (by rw [← b.len]; exact hi)] at h2
        cases h1; cases h2
        exact ⟨a, vs, rfl, e, r, nf, ns, nl, h0⟩
      · rw [List.getElem?_eq_none (by simpa using hi)] at h1; cases h1
    · rw [List.getElem?_set_ne q] at h1 h2
      exact b.sl j sd w h1 h2
  · by_cases qj : i = j
    · by_cases qk : i = k
      · rw [← qj, ← qk]
      · subst qj
        exfalso
        have hi : i < σ.length := by
          by_cases hi : i < σ.length
          · exact hi
          · rw [List.getElem?_eq_none (by simpa using hi)] at h3; cases h3
        rw [List.getElem?_set_self hi] at h3
        cases h3
        rw [List.getElem?_set_ne qk] at h2 h4
        exact no ⟨k, es, h2, h4⟩
    · by_cases qk : i = k
      · subst qk
        exfalso
        have hi : i < σ.length := by
          by_cases hi : i < σ.length
          · exact hi
          · rw [List.getElem?_eq_none (by simpa using hi)] at h4; cases h4
        rw [List.getElem?_set_self hi] at h4
        cases h4
        rw [List.getElem?_set_ne qj] at h1 h3
        exact no ⟨j, ds1, h1, h3⟩
      · rw [List.getElem?_set_ne qj] at h1 h3
        rw [List.getElem?_set_ne qk] at h2 h4
        exact b.ap j k a' ds1 es h1 h2 h3 h4
theorem tS_own {i : Nat} {c : C} {D : Ends} {σ : St} {H : Hp} (h : tS K M Z (.own i c) D σ H) : tN K M Z c σ H (fun x H1 => gName i x σ H1 D.nx) := by
  obtain ⟨W, σd, z, b, p⟩ := h
  refine tSN_of b p fun d z' W' H' v l b' r p => ?_
  cases d with
  | lst ds =>
    obtain ⟨a, vs, rfl, q1, q2, q3, q4, q5, q6⟩ := r
    exact p W' _ H' Mo.refl (BI.setOwn b' q1 q2 q3 q4 q5 (b.le.none_of q6) (OwnA.tracked b q6))
  | _ => exact p.elim
section
variable {X : Cx} {G : Gi} {N : List Str} {sc : PySem.Scope}
theorem sS_set {i : Nat} {y : Str} {e : PySem.Expr} {c : C} {py spos : PySem.Pos} (g : Good X N sc) (hi : N[i]? = some y) (hl : locB sc y = true) (hb : isBor c = false) (hs : nolc e = true) (he : PE X e (tE X.K M Z c)) : PS X (.Assign [.Name y py] e spos) (tS X.K M Z (.set i c)) :=
  (ps_set (by rw [g.hN]; exact g.nd) (by rw [g.hN]; exact hi) (g.loc hl).1 he (sw_no hs _ _ _) (g.loc hl).2).evi fun D σ H h => tS_set hb h
theorem sS_own {i : Nat} {y : Str} {e : PySem.Expr} {c : C} {py spos : PySem.Pos} (g : Good X N sc) (hi : N[i]? = some y) (hl : locB sc y = true) (hs : nolc e = true) (he : PE X e (tN X.K M Z c)) : PS X (.Assign [.Name y py] e spos) (tS X.K M Z (.own i c)) :=
  (ps_set (by rw [g.hN]; exact g.nd) (by rw [g.hN]; exact hi) (g.loc hl).1 he (sw_no hs _ _ _) (g.loc hl).2).evi fun D σ H h => tS_own h
/-- a cell's name gets a comprehension -/
theorem sS_ownC {i : Nat} {y : Str} {elt : PySem.Expr} {gs : List PySem.Comprehension} {scope : PySem.Scope} {pos : PySem.Pos} {c : C} {py spos : PySem.Pos} (g : Good X N sc) (hi : N[i]? = some y) (hl : sc.names.lookup y = some .cell) (he : PE X (.ListComp elt gs scope pos) (tN X.K M Z c)) :
    PS X (.Assign [.Name y py] (.ListComp elt gs scope pos) spos) (tAsg (tN X.K M Z c) (gName i)) :=
  ps_set (by rw [g.hN]; exact g.nd) (by rw [g.hN]; exact hi) (.inr (g.ce _ hl).1) he (sw_cell (g.ce _ hl).1) (.inl (g.ce _ hl).2)
end
end
end EV

namespace EV
open PySem L2
section
variable {K : PySem.W.Frag} {M : Mx} {Z : Cxt} {W W' : Wd} {σd : Sg} {z : Sto} {σ : St} {H H' : Hp} {D D' : Ends}
theorem Mo.write {a : Addr} {xs ys : List V} (e : H a = some (.lst xs)) (nf : ¬ W.F a) : Mo W H W (upd H a (.lst ys)) := Mo.wr e nf
/-- an own list is rewritten -/
theorem BI.wrOwn {i : Nat} {ds ds' : List EV.D} {a : Addr} {vs vs' : List V} (b : BIm K M W σd z σ H) (hi : σd[i]? = some (some (.own ds))) (hv : σ[i]? = some (some (.ref a))) (e : H a = some (.lst vs)) (r' : Rps K W H vs' ds') :
    BIm K M W (σd.set i (some (.own ds'))) z σ (upd H a (.lst vs')) := by
  obtain ⟨a', vs0, e0, q1, q2, nf, ns, nl, h0⟩ := b.sl i _ _ hi hv
  cases e0
  have m : Mo W H W (upd H a (.lst vs')) := Mo.write e nf
  have hil : i < σd.length := (List.getElem?_eq_some_iff.mp hi).1
  refine ⟨by rw [List.length_set]; exact b.len, fun j sd v h1 h2 => ?_, fun j k a' ds1 es h1 h2 h3 h4 => ?_, ⟨b.sr.ok.wr nf, CsR.wr e nf nl b.sr.cs, ?_⟩, ⟨b.le.toMo.trans m, b.le.fn, b.le.ln, b.le.sn, fun c o q hl hs' => ?_, fun c o q => ?_⟩⟩
  · by_cases hj : i = j
    · subst hj
      rw [List.getElem?_set_self hil] at h1
      cases h1
      rw [hv] at h2; cases h2
      exact ⟨a, vs', rfl, upd_same, Rps.mo m _ _ r', nf, ns, nl, h0⟩
    · rw [List.getElem?_set_ne hj] at h1
      have q := b.sl j sd v h1 h2
      cases sd with
      | none => trivial
      | some sl => cases sl with
        | val d =>
          obtain ⟨v', e, r⟩ := q
          exact ⟨v', e, Rp.mo m d v' r⟩
        | own ds2 =>
          obtain ⟨c, vs2, rfl, p1, p2, p3⟩ := q
          refine ⟨c, vs2, rfl, ?_, Rps.mo m ds2 vs2 p2, p3⟩
          rw [upd_ne (fun z => hj (b.ap i j a ds ds2 hi h1 hv (by rw [← z]; exact h2)))]
          exact p1
        | dic _ => exact q.elim
  · have key : ∀ (j : Nat) (ds1 : List EV.D), (σd.set i (some (.own ds')))[j]? = some (some (.own ds1)) → ∃ ds2, σd[j]? = some (some (.own ds2)) := fun j ds1 h => by
      by_cases hj : i = j
      · subst hj; exact ⟨_, hi⟩
      · rw [List.getElem?_set_ne hj] at h; exact ⟨_, h⟩
    obtain ⟨e1, k1⟩ := key j ds1 h1
    obtain ⟨e2, k2⟩ := key k es h2
    exact b.ap j k a' e1 e2 k1 k2 h3 h4
  · have q := b.sr.st
    cases e1 : z.st with
    | none => rw [e1] at q; exact q
    | some p =>
      obtain ⟨xs, c, n⟩ := p
      rw [e1] at q
      obtain ⟨s, v, h1, h2, h3⟩ := q
      exact ⟨s, v, h1, by rw [upd_ne (fun (z : s = a) => ns (by rw [← z]; exact h1))]; exact h2, Rp.mo m _ _ h3⟩
  · have q2 := b.le.keep c o q hl hs'
    rw [upd_ne (fun z => by rw [z, h0] at q; cases q)]
    exact q2
  · obtain ⟨o', q2⟩ := b.le.kept c o q
    by_cases hc : c = a
    · subst hc; exact ⟨_, upd_same⟩
    · exact ⟨o', by rw [upd_ne hc]; exact q2⟩
/-- the own list at i, as it lies -/
theorem BI.ownAt {i : Nat} {ds : List EV.D} (b : BIm K M W σd z σ H) (hi : σd[i]? = some (some (.own ds))) : ∃ a vs, σ[i]? = some (some (.ref a)) ∧ H a = some (.lst vs) ∧ Rps K W H vs ds ∧ ¬ W.F a := by
  obtain ⟨v, hv, a, vs, rfl, q1, q2, q3, _⟩ := b.get hi
  exact ⟨a, vs, hv, q1, q2, q3⟩
/-- an own list is frozen -/
theorem BI.frz {i : Nat} {ds : List EV.D} (b : BIm K M W σd z σ H) (hi : σd[i]? = some (some (.own ds))) : ∃ W', Mo W H W' H ∧ BIm K M W' (σd.set i (some (.val (.lst ds)))) z σ H := by
  obtain ⟨v, hv, a, vs, rfl, q1, q2, nf, ns, nl, h0⟩ := b.get hi
  have m : Mo W H (W.add a) H := Mo.add
  have hil : i < σd.length := (List.getElem?_eq_some_iff.mp hi).1
  refine ⟨W.add a, m, by rw [List.length_set]; exact b.len, fun j sd v h1 h2 => ?_, fun j k a' ds1 es h1 h2 h3 h4 => ?_, b.sr.add q1 ns nl, ⟨b.le.toMo.trans m, fun x f => ?_, b.le.ln, b.le.sn, b.le.keep, b.le.kept⟩⟩
  · by_cases hj : i = j
    · subst hj
      rw [List.getElem?_set_self hil] at h1
      cases h1
      rw [hv] at h2; cases h2
      exact ⟨_, rfl, a, vs, rfl, .inr rfl, q1, Rps.mo m _ _ q2⟩
    · rw [List.getElem?_set_ne hj] at h1
      have q := b.sl j sd v h1 h2
      cases sd with
      | none => trivial
      | some sl => cases sl with
        | val d =>
          obtain ⟨v', e, r⟩ := q
          exact ⟨v', e, Rp.mo m d v' r⟩
        | own ds2 =>
          obtain ⟨c, vs2, rfl, p1, p2, p3, p4⟩ := q
          refine ⟨c, vs2, rfl, p1, Rps.mo m ds2 vs2 p2, fun z => ?_, p4⟩
          rcases z with z | z
          · exact p3 z
          · exact hj (b.ap i j a ds ds2 hi h1 hv (by rw [← z]; exact h2))
        | dic _ => exact q.elim
  · have key : ∀ (j : Nat) (ds1 : List EV.D), (σd.set i (some (.val (.lst ds))))[j]? = some (some (.own ds1)) → σd[j]? = some (some (.own ds1)) := fun j ds1 h => by
      by_cases hj : i = j
      · subst hj; rw [List.getElem?_set_self hil] at h; cases h
      · rw [List.getElem?_set_ne hj] at h; exact h
    exact b.ap j k a' ds1 es (key j ds1 h1) (key k es h2) h3 h4
  · rcases f with f | rfl
    · exact b.le.fn x f
    · exact .inr h0
theorem sSs_frz {X : Cx} {i : Nat} {rest : List PySem.Stmt} {ss : Ss} (h : PSs X rest (tSs K M Z ss)) : PSs X rest (tSs K M Z (.cons (.frz i) ss)) := by
  refine h.evi fun D σ H q => ?_
  obtain ⟨W, σd, z, b, p⟩ := q
  unfold evSs evS at p
  split at p
  · rename_i ds e
    obtain ⟨W', m, b'⟩ := b.frz e
    exact ⟨W', _, z, b', PostS.mo p m⟩
  · exact ⟨W, _, z, b, p⟩
  · exact p.elim
/-! ### writes -/
section
variable {X : Cx} {G : Gi} {N : List Str} {sc : PySem.Scope}
theorem sS_app {i : Nat} {x : Str} {p apos cpos spos : PySem.Pos} {e : PySem.Expr} {c : C} (g : Good X N sc) (hi : N[i]? = some x) (hv : visB sc x = true) (hd : (x == ("__debug__" : Str)) = false) (hcd : (x == ("__classdict__" : Str)) = false) (hb : isBor c = false) (hs : nostar e = true) (hline : (apos.endLine == cpos.line) = true) (he : PE X e (tE X.K M Z c)) :
    PS X (.Expr (.Call (.Attribute (.Name x p) "append" apos) [e] [] cpos) spos) (tS X.K M Z (.app i c)) := by
  refine (ps_expr (pe_bm PySem.F.plainAttrs_list PySem.F.slot_list_append PySem.F.type_list_append mt_append (pe_var (i := i) (by rw [g.hN]; exact hi) (g.vis hv) hd hcd) (pa_cons he pa_nil (star_no hs _ _)) rfl (by rw [star_no hs]; rfl) hline (star_no hs _ _) rfl)).evi fun D σ H h => ?_
  obtain ⟨W, σd, z, b, p⟩ := h
  unfold evS at p
  split at p
  · rename_i ds hd
    obtain ⟨a, vs, ha, e1, r1, nf⟩ := b.ownAt hd
    refine ⟨_, ha, .inl ⟨rfl, vs, SqL.of e1⟩, tS_of b p fun d z' W' H' v l b' r p => ?_⟩
    obtain ⟨a', vs', ha', e2, r2, nf2⟩ := b'.ownAt hd
    rw [ha] at ha'; cases ha'
    split at p
    · rename_i hz
      refine ⟨a, vs', v, rfl, rfl, e2, by rw [← lim_eq, r2.len]; exact hz, ?_⟩
      exact p W' σ _ (Mo.write e2 nf2) (BI.wrOwn b' hd ha e2 (Rps.app r2 ⟨(Rpx_no hb).mp r, trivial⟩))
    · exact p.elim
  · exact p.elim
theorem sS_ext {i : Nat} {x : Str} {p apos cpos spos : PySem.Pos} {e : PySem.Expr} {c : C} (g : Good X N sc) (hi : N[i]? = some x) (hv : visB sc x = true) (hd : (x == ("__debug__" : Str)) = false) (hcd : (x == ("__classdict__" : Str)) = false) (hs : nostar e = true) (hline : (apos.endLine == cpos.line) = true) (he : PE X e (tE X.K M Z c)) :
    PS X (.Expr (.Call (.Attribute (.Name x p) "extend" apos) [e] [] cpos) spos) (tS X.K M Z (.ext i c)) := by
  refine (ps_expr (pe_bm PySem.F.plainAttrs_list PySem.F.slot_list_extend PySem.F.type_list_extend mt_extend (pe_var (i := i) (by rw [g.hN]; exact hi) (g.vis hv) hd hcd) (pa_cons he pa_nil (star_no hs _ _)) rfl (by rw [star_no hs]; rfl) hline (star_no hs _ _) rfl)).evi fun D σ H h => ?_
  obtain ⟨W, σd, z, b, p⟩ := h
  unfold evS at p
  split at p
  · rename_i ds hd
    obtain ⟨a, vs, ha, e1, r1, nf⟩ := b.ownAt hd
    refine ⟨_, ha, .inl ⟨rfl, vs, SqL.of e1⟩, tS_of b p fun d z' W' H' v l b' r p => ?_⟩
    obtain ⟨a', vs', ha', e2, r2, nf2⟩ := b'.ownAt hd
    rw [ha] at ha'; cases ha'
    split at p
    · rename_i es
      split at p
      · rename_i hz
        obtain ⟨a3, vs3, rfl, _, e3, r3⟩ := Rpx.op r
        refine ⟨a, a3, vs', vs3, rfl, rfl, e2, e3, by rw [← lim_eq, r2.len, r3.len]; exact hz, ?_⟩
        exact p W' σ _ (Mo.write e2 nf2) (BI.wrOwn b' hd ha e2 (Rps.app r2 r3))
      · exact p.elim
    · exact p.elim
  · exact p.elim
theorem sw_sub {e o i : PySem.Expr} {p : PySem.Pos} {l : Nat} {env : PySem.Env} : swapsWithSole [.Subscript o i p] e l env = pure false := by
  cases e <;> rfl
theorem sS_setI {i : Nat} {x : Str} {p tpos spos : PySem.Pos} {e ke : PySem.Expr} {k c : C} (g : Good X N sc) (hi : N[i]? = some x) (hv : visB sc x = true) (hd : (x == ("__debug__" : Str)) = false) (hcd : (x == ("__classdict__" : Str)) = false) (hb : isBor c = false) (hk : noslice ke = true) (hkb : isBor k = false) (hke : PE X ke (tE X.K M Z k)) (he : PE X e (tE X.K M Z c)) :
    PS X (.Assign [.Subscript (.Name x p) ke tpos] e spos) (tS X.K M Z (.setI i k c)) := by
  refine (ps_asg he (pg_sub (pe_var (i := i) (by rw [g.hN]; exact hi) (g.vis hv) hd hcd) hke set_list (by cases ke <;> first | (intro v; rfl) | cases hk)) sw_sub).evi fun D σ H h => ?_
  obtain ⟨W, σd, z, b, p⟩ := h
  unfold evS at p
  split at p
  · rename_i ds hd
    obtain ⟨a, vs, ha, e1, r1, nf⟩ := b.ownAt hd
    refine tS_of b p fun d z' W' H' v l b' r p => ⟨_, ha, tS_of b' p fun kd z2 W2 H2 kv l2 b2 rk p2 => ?_⟩
    have r := Rp.mo l2.toMo _ _ ((Rpx_no hb).mp r)
    have rk := (Rpx_no hkb).mp rk
    cases kd with
    | int j =>
      cases rk
      dsimp only at p2
      split at p2
      · rename_i n hn
        obtain ⟨a', vs', ha', e2, r2, nf2⟩ := b2.ownAt hd
        rw [ha] at ha'; cases ha'
        refine ⟨a, vs', j, n, rfl, rfl, e2, by rw [r2.len]; exact hn, ?_⟩
        exact p2 W2 σ _ (Mo.write e2 nf2) (BI.wrOwn b2 hd ha e2 (Rps.set n r2 r))
      · exact p2.elim
    | _ => exact p2.elim
  · exact p.elim
/-- the stream is written -/
theorem BI.wrS {a : Addr} {v : V} {xs : List Int} {c n c' n' : Int} (b : BIm K M W σd z σ H) (hz : z.st = some (xs, c, n)) (ha : W.s = some a) (e : H a = some (.lst [v, .int c, .int n])) (r : Rp K W H v (.lst (xs.map EV.D.int))) :
    BIm K M W σd ⟨some (xs, c', n'), z.cs⟩ σ (upd H a (.lst [v, .int c', .int n'])) := by
  have nf : ¬ W.F a := fun f => b.sr.ok.fs a f ha
  have m : Mo W H W (upd H a (.lst [v, .int c', .int n'])) := Mo.write e nf
  refine ⟨b.len, fun j sd w h1 h2 => ?_, b.ap, ⟨b.sr.ok.wr nf, CsR.wr e nf (b.sr.ok.sl a ha) b.sr.cs, ?_⟩, ⟨b.le.toMo.trans m, b.le.fn, b.le.ln, b.le.sn, fun c o q hl hs' => ?_, fun c o q => ?_⟩⟩
  · have q := b.sl j sd w h1 h2
    cases sd with
    | none => trivial
    | some sl => cases sl with
      | val d =>
        obtain ⟨v', e, r⟩ := q
        exact ⟨v', e, Rp.mo m d v' r⟩
      | own ds2 =>
        obtain ⟨c2, vs2, rfl, p1, p2, p3, p4, p5⟩ := q
        refine ⟨c2, vs2, rfl, ?_, Rps.mo m ds2 vs2 p2, p3, p4, p5⟩
        rw [upd_ne (fun z => p4 (by rw [z]; exact ha))]
        exact p1
      | dic _ => exact q.elim
  · exact ⟨a, v, ha, upd_same, Rp.mo m _ _ r⟩
  · have q2 := b.le.keep c o q hl hs'
    rw [upd_ne (fun z => ?_)]
    · exact q2
    · subst z
      rcases b.le.sn _ ha with k | k
      · exact hs' k
      · rw [k] at q; cases q
  · obtain ⟨o', q2⟩ := b.le.kept c o q
    by_cases hc : c = a
    · subst hc; exact ⟨_, upd_same⟩
    · exact ⟨o', by rw [upd_ne hc]; exact q2⟩
theorem sS_stI {i k : Nat} {x : Str} {p tpos spos : PySem.Pos} {e : PySem.Expr} {jj kp} {c : C} (g : Good X N sc) (hi : N[i]? = some x) (hv : visB sc x = true) (hd : (x == ("__debug__" : Str)) = false) (hcd : (x == ("__classdict__" : Str)) = false) (hb : isBor c = false) (he : PE X e (tE X.K M Z c)) :
    PS X (.Assign [.Subscript (.Name x p) (.Constant (.int (k : Nat)) jj kp) tpos] e spos) (tS X.K M Z (.stI i k c)) := by
  refine (ps_asg he (pg_sub (pe_var (i := i) (by rw [g.hN]; exact hi) (g.vis hv) hd hcd) pe_int set_list (fun _ => rfl)) sw_sub).evi fun D σ H h => ?_
  obtain ⟨W, σd, z, b, p⟩ := h
  unfold evS at p
  split at p
  · rename_i hd
    refine tS_of b p fun d z' W' H' v l b' r p1 => ?_
    obtain ⟨v', hv', v2, ev, a, rfl, ha⟩ := b'.get hd
    cases ev
    split at p1
    · rename_i j xs cc nn hz
      have r := (Rpx_no hb).mp r
      cases r
      have st := b'.sr.st
      rw [hz] at st
      obtain ⟨a2, w, ha2, e2, r2⟩ := st
      rw [ha] at ha2; cases ha2
      have nf : ¬ W'.F a := fun f => b'.sr.ok.fs a f ha
      split at p1
      · rename_i hk
        subst hk
        exact ⟨_, hv', a, _, 1, 1, rfl, rfl, e2, rfl, p1 W' σ _ (Mo.write e2 nf) (BI.wrS b' hz ha e2 r2)⟩
      · split at p1
        · rename_i hk
          subst hk
          exact ⟨_, hv', a, _, 2, 2, rfl, rfl, e2, rfl, p1 W' σ _ (Mo.write e2 nf) (BI.wrS b' hz ha e2 r2)⟩
        · exact p1.elim
    · exact p1.elim
  · exact p.elim
theorem sS_aug {i : Nat} {x : Str} {o : Bop} {p spos : PySem.Pos} {e : PySem.Expr} {c : C} (g : Good X N sc) (ho : o = .add ∨ o = .sub) (hi : N[i]? = some x) (hl : locB sc x = true) (hb : isBor c = false) (he : PE X e (tE X.K M Z c)) :
    PS X (.AugAssign (.Name x p) (opOf o) e spos) (tS X.K M Z (.aug i o c)) := by
  rcases ho with rfl | rfl
  · refine (ps_aug (i := i) (by rw [g.hN]; exact g.nd) (by rw [g.hN]; exact hi) (g.loc hl).1 he ip_add (g.loc hl).2).evi fun D σ H h => ?_
    obtain ⟨W, σd, z, b, p⟩ := h
    unfold evS at p
    split at p
    · rename_i d0 hd
      obtain ⟨v', hv', v2, rfl, r0⟩ := b.get hd
      refine ⟨v2, hv', tS_of b p fun d z' W' H' v l b' r p => ?_⟩
      have r := (Rpx_no hb).mp r
      cases d0 with
      | int a0 => cases d with
        | int a1 =>
          cases r; cases r0
          exact ⟨a0, a1, rfl, rfl, p W' _ H' Mo.refl (BI.set b' (d := .int (a0 + a1)) rfl)⟩
        | _ => exact p.elim
      | _ => exact p.elim
    · exact p.elim
  · refine (ps_aug (i := i) (by rw [g.hN]; exact g.nd) (by rw [g.hN]; exact hi) (g.loc hl).1 he ip_sub (g.loc hl).2).evi fun D σ H h => ?_
    obtain ⟨W, σd, z, b, p⟩ := h
    unfold evS at p
    split at p
    · rename_i d0 hd
      obtain ⟨v', hv', v2, rfl, r0⟩ := b.get hd
      refine ⟨v2, hv', tS_of b p fun d z' W' H' v l b' r p => ?_⟩
      have r := (Rpx_no hb).mp r
      cases d0 with
      | int a0 => cases d with
        | int a1 =>
          cases r; cases r0
          exact ⟨a0, a1, rfl, rfl, p W' _ H' Mo.refl (BI.set b' (d := .int (a0 - a1)) rfl)⟩
        | _ => exact p.elim
      | _ => exact p.elim
    · exact p.elim
def notup : PySem.Expr → Bool
  | .Tuple _ _ _ => false
  | _ => true
theorem swp_no {e t : PySem.Expr} (h : notup e = true) (env : PySem.Env) : swappedStores [t] e env = pure none := by
  cases e <;> cases t <;> first | rfl | exact nomatch h
theorem sw_tup {e : PySem.Expr} {es : List PySem.Expr} {k : Nat} {p : PySem.Pos} {l : Nat} {env : PySem.Env} : swapsWithSole [.Tuple es k p] e l env = pure false := by
  cases e <;> rfl
theorem sS_tset {t : Tg} {es : List PySem.Expr} {kk : Nat} {tp spos : PySem.Pos} {e : PySem.Expr} {c : C} (g : Good X N sc) (ht : chkT N sc t (.Tuple es kk tp) = true) (hb : isBor c = false) (hn : notup e = true) (he : PE X e (tE X.K M Z c)) :
    PS X (.Assign [.Tuple es kk tp] e spos) (tS X.K M Z (.tset t c)) := by
  refine (ps_asg he (sT_tg g t _ ht) sw_tup (swp_no hn _)).evi fun D σ H h => ?_
  obtain ⟨W, σd, z, b, p⟩ := h
  unfold evS at p
  refine tS_of b p fun d z' W' H' v l b' r p => ?_
  split at p
  · rename_i σ1 e1
    exact tg_ok (ws := t.slots) t v d σd σ1 σ _ (fun i h => h) b' ((Rpx_no hb).mp r) e1 fun σ' b2 _ _ => p W' σ' H' Mo.refl b2
  · exact p.elim
end
end
end EV

namespace EV
open PySem L2
theorem forI_end (f : EV.D → Sg → Sto → Res Fl) (iv : Iv) (σ : Sg) (z : Sto) : forI f (iv.drop iv.len) σ z = .ok (.nx σ) z := by
  cases iv with
  | l ds => show forL f (ds.drop ds.length) σ z = _; rw [List.drop_length]; rfl
  | r lo n => show forR f _ (n - n) σ z = _; rw [Nat.sub_self]; rfl
theorem forI_zero (f : EV.D → Sg → Sto → Res Fl) (iv : Iv) (σ : Sg) (z : Sto) : forI f (iv.drop 0) σ z = forI f iv σ z := by
  cases iv with
  | l ds => rfl
  | r lo n =>
    show forR f (lo + ((0 : Nat) : Int)) (n - 0) σ z = forR f lo n σ z
    simp
theorem forI_step {f : EV.D → Sg → Sto → Res Fl} {iv : Iv} {i : Nat} {σ : Sg} {z : Sto} {d : EV.D} (hd : iv.get i = some d) :
    forI f (iv.drop i) σ z = (f d σ z).bind fun fl z => match fl with
      | .nx σ => forI f (iv.drop (i + 1)) σ z
      | .ct σ => forI f (iv.drop (i + 1)) σ z
      | .bk σ => .ok (.nx σ) z
      | fl => .ok fl z := by
  cases iv with
  | l ds =>
    have hd : ds[i]? = some d := hd
    obtain ⟨hi, e⟩ := List.getElem?_eq_some_iff.mp hd
    show forL f (ds.drop i) σ z = _
    rw [List.drop_eq_getElem_cons hi, e]
    rfl
  | r lo n =>
    have hd : (if i < n then some (EV.D.int (lo + i)) else none) = some d := hd
    split at hd
    · rename_i hi
      cases hd
      show forR f (lo + i) (n - i) σ z = _
      obtain ⟨k, hk⟩ : ∃ k, n - i = k + 1 := ⟨n - i - 1, by omega⟩
      rw [hk]
      have e : forI f ((Iv.r lo n).drop (i + 1)) = forR f (lo + i + 1) k := by
        show forR f (lo + ((i + 1 : Nat) : Int)) (n - (i + 1)) = forR f (lo + i + 1) k
        rw [show lo + ((i + 1 : Nat) : Int) = lo + i + 1 by omega, show n - (i + 1) = k by omega]
      rw [e]
      rfl
    · cases hd
section
variable {K : PySem.W.Frag} {M : Mx} {Z : Cxt} {W W' : Wd} {σd : Sg} {z : Sto} {σ : St} {H H' : Hp} {D D' : Ends}
/-- the ends of a loop's body -/
theorem FlQ.loop {fl : Fl} {nx : Sg → Sto → Res Fl} {Nx : St → Hp → Prop} (p : PostS K M W H (match fl with
      | .nx σ => nx σ z
      | .ct σ => nx σ z
      | .bk σ => .ok (.nx σ) z
      | fl => .ok fl z) D) (h : ∀ σ1 W' σ' H', Mo W H W' H' → BIm K M W' σ1 z σ' H' → PostS K M W' H' (nx σ1 z) D → Nx σ' H') : FlQ K M W H { D with nx := Nx, ct := Nx, bk := D.nx } fl z := by
  cases fl with
  | nx σ1 => exact fun W' σ' H' m b => h σ1 W' σ' H' m b (PostS.mo p m)
  | ct σ1 => exact fun W' σ' H' m b => h σ1 W' σ' H' m b (PostS.mo p m)
  | bk σ1 => exact fun W' σ' H' m b => p W' σ' H' m b
  | rt d => exact p
  | xx x σ1 => exact p
theorem sS_ife {X : Cx} {pos : PySem.Pos} {c : PySem.Expr} {a b : List PySem.Stmt} {cc : C} {ca cb : Ss} (hc : PT X c (tB K M Z cc)) (ha : PSs X a (tSs K M Z ca)) (hb : PSs X b (tSs K M Z cb)) : PS X (.If c a b pos) (tS K M Z (.ife cc ca cb)) := by
  refine (ps_if hc ha hb).evi fun D σ H h => ?_
  obtain ⟨W, σd, z, b, p⟩ := h
  refine ⟨W, σd, z, b, ?_⟩
  unfold evS at p
  have p : PostS K M W H (bS ((evE Z cc σd z).bind fun x z => lift (truD x) z) σd fun k z => match k with
    | true => evSs Z ca σd z
    | false => evSs Z cb σd z) D := by
    cases e : evE Z cc σd z with
    | ok x z1 =>
      rw [e] at p
      rw [Res.bind_ok]
      exact p
    | exn x z1 => rw [e] at p; exact p
    | err => rw [e] at p; exact p
  refine (PostS.of_bS p).mono fun k z1 W1 H1 l b1 p1 => ?_
  cases k with
  | true =>
    rw [if_pos rfl]
    exact ⟨W1, σd, z1, b1, p1⟩
  | false =>
    rw [if_neg Bool.false_ne_true]
    exact ⟨W1, σd, z1, b1, p1⟩
theorem sS_whl {X : Cx} {pos : PySem.Pos} {c : PySem.Expr} {a : List PySem.Stmt} {cc : C} {ca : Ss} (hp : PassesOwn (PySem.model X.prog X.w) X.A X.env X.xe) (hc : PT X c (tB K M Z cc)) (ha : PSs X a (tSs K M Z ca)) : PS X (.While c a [] pos) (tS K M Z (.whl cc ca)) := by
  refine (ps_while hp hc ha).evi fun D σ H h => ?_
  obtain ⟨W, σd, z, b, p⟩ := h
  unfold evS at p
  refine ⟨fun m σ' H' => ∃ W' σd' z', BIm K M W' σd' z' σ' H' ∧ PostS K M W' H' (whlF (fun σ z => (evE Z cc σ z).bind fun x z => lift (truD x) z) (fun σ z => evSs Z ca σ z) m σd' z') D, ⟨Z.W, W, σd, z, b, p⟩, fun m σ1 H1 ⟨W1, σd1, z1, b1, p1⟩ => ?_⟩
  cases m with
  | zero => exact p1.elim
  | succ n =>
    unfold whlF at p1
    refine ⟨W1, σd1, z1, b1, ?_⟩
    refine (PostS.of_bS p1).mono fun k z2 W2 H2 l2 b2 p2 => ?_
    cases k with
    | false =>
      rw [if_neg Bool.false_ne_true]
      exact p2 W2 σ1 H2 Mo.refl b2
    | true =>
      rw [if_pos rfl]
      refine ⟨fun σ' H' => ∃ W' σd' z', BIm K M W' σd' z' σ' H' ∧ PostS K M W' H' (whlF (fun σ z => (evE Z cc σ z).bind fun x z => lift (truD x) z) (fun σ z => evSs Z ca σ z) n σd' z') D, fun σ' H' h => ⟨n, Nat.lt_succ_self n, h⟩, W2, σd1, z2, b2, ?_⟩
      cases e : evSs Z ca σd1 z2 with
      | err => rw [e] at p2; exact p2.elim
      | exn x z3 => rw [e] at p2; exact p2.elim
      | ok fl z3 =>
        rw [e] at p2
        exact FlQ.loop p2 fun σ3 W' σ' H' m b' p3 => ⟨W', σ3, z3, b', p3⟩
theorem sS_for {X : Cx} {pos : PySem.Pos} {tg iter : PySem.Expr} {a : List PySem.Stmt} {t : Tg} {it : I} {ca : Ss} (hp : PassesOwn (PySem.model X.prog X.w) X.A X.env X.xe) (hcalm : X.calm = true) (hno : noset iter = true) (hi : PI X tg iter (tI X.K M Z it)) (hg : PG X tg (gT X.K t)) (ha : PSs X a (tSs X.K M Z ca)) :
    PS X (.For tg iter a [] pos) (tS X.K M Z (.for_ t it ca)) := by
  refine (ps_for hp hcalm hi hg ha (fold_no hno _)).evi fun D σ H h => ?_
  obtain ⟨W, σd, z, b, p⟩ := h
  unfold evS at p
  refine ⟨W, σd, z, b, (PostS.of_bS p).mono fun iv z1 W1 H1 l1 b1 p1 J ok => ?_⟩
  refine ⟨fun i m σ' H' => m = iv.len - i ∧ i ≤ iv.len ∧ ∃ W' σd' z', BIm X.K M W' σd' z' σ' H' ∧ Mo W1 H1 W' H' ∧ PostS X.K M W' H' (forI (fun d σ z => match asgT t d σ with
      | some σ => evSs Z ca σ z
      | none => .err) (iv.drop i) σd' z') D, ⟨iv.len, by simp, Nat.zero_le _, W1, σd, z1, b1, Mo.refl, by rw [forI_zero]; exact p1⟩, ?_⟩
  rintro i m σ2 H2 ⟨rfl, hi, W2, σd2, z2, b2, m2, p2⟩
  by_cases hlt : i < iv.len
  · obtain ⟨d, hd⟩ := Iv.get_lt hlt
    obtain ⟨jg, jy⟩ := ok.go i W2 H2 d m2 hd
    refine .inr ⟨jg, fun σ' H' => ∃ W' σd' z', BIm X.K M W' σd' z' σ' H' ∧ Mo W1 H1 W' H' ∧ PostS X.K M W' H' (forI (fun d σ z => match asgT t d σ with
      | some σ => evSs Z ca σ z
      | none => .err) (iv.drop (i + 1)) σd' z') D, fun σ' H' h => ⟨iv.len - (i + 1), by omega, rfl, hlt, h⟩, fun x H3 y => ?_⟩
    obtain ⟨sm, rx⟩ := jy x H3 y
    rw [forI_step hd] at p2
    have b3 := b2.same sm
    have p3 := PostS.mo p2 (Le.same (W := W2) sm).toMo
    have m3 := m2.trans (Le.same (W := W2) sm).toMo
    cases e : asgT t d σd2 with
    | none => rw [e] at p3; exact p3.elim
    | some σd3 =>
      rw [e] at p3
      refine tg_ok (ws := t.slots) t x d σd2 σd3 σ2 _ (fun i h => h) b3 rx e fun σ4 b4 _ _ => ?_
      refine ⟨W2, σd3, z2, b4, ?_⟩
      dsimp only at p3
      cases e2 : evSs Z ca σd3 z2 with
      | err => rw [e2] at p3; exact p3.elim
      | exn x z5 => rw [e2] at p3; exact p3.elim
      | ok fl z5 =>
        rw [e2, Res.bind_ok] at p3
        exact FlQ.loop p3 fun σ6 W' σ' H' m b' p6 => ⟨W', σ6, z5, b', m3.trans m, p6⟩
  · have e : i = iv.len := by omega
    subst e
    rw [forI_end] at p2
    exact .inl ⟨ok.stop _ W2 H2 m2 (Nat.le_refl _) (Nat.le_refl _), p2 W2 σ2 H2 Mo.refl b2⟩
/-! ### a, b = x, y -/
def plainSt : PySem.Expr → Bool
  | .Starred _ _ => false
  | _ => true
theorem swp_two {x y : Str} {a b : PySem.Expr} {px py pt pt2 : PySem.Pos} {kt k2} {env : PySem.Env} (hk : env.scope.kind = .function) (hx : env.scope.names.lookup x = some .local) (hy : env.scope.names.lookup y = some .local) (hl : (px.line == py.line) = true) (hxy : (x == y) = false)
    (h1 : ([a, b].all (foldedForSure 8)) = false) (h2 : ([a, b].all (constantsAlone 8)) = false) (ha : nostar a = true) (hb : nostar b = true) :
    swappedStores [.Tuple [.Name x px, .Name y py] kt pt] (.Tuple [a, b] k2 pt2) env = pure (some [x, y]) := by
  have kx : env.kindOf x = some .local := hx
  have ky : env.kindOf y = some .local := hy
  have hbk : env.blockKind = .function := by unfold PySem.Env.blockKind; rw [hk]; rfl
  have hyx : (py.line == px.line) = true := by
    rw [beq_iff_eq] at hl ⊢; exact hl.symm
  have hyx2 : (y == x) = false := by
    rw [beq_eq_false_iff_ne] at hxy ⊢; exact hxy.symm
  have hdup : ([x, y] : List Str).eraseDups.length = 2 := by
    simp [List.eraseDups, List.eraseDupsBy, List.eraseDupsBy.loop, hyx2, hxy]
  unfold swappedStores
  simp only [hbk, kx, ky, List.filterMap_cons, List.filterMap_nil, List.length_cons, List.length_nil, hyx, h1, h2, List.head?_cons, Option.map_some, Option.getD_some, PySem.Expr.pos, hdup]
  simp [hyx, hl, hdup]
  intro h
  exfalso
  rcases h with h | h
  · cases a <;> first | exact Bool.false_ne_true ha | exact Bool.false_ne_true h
  · cases b <;> first | exact Bool.false_ne_true hb | exact Bool.false_ne_true h
theorem sS_par {X : Cx} {N : List Str} {sc : PySem.Scope} {i j : Nat} {x y : Str} {a b : PySem.Expr} {ca cb : C} {px py pt pt2 spos : PySem.Pos} {kt k2} (g : Good X N sc) (hkd : X.env.scope.kind = .function) (hi : N[i]? = some x) (hj : N[j]? = some y) (hij : i ≠ j) (hx : sc.names.lookup x = some .local) (hy : sc.names.lookup y = some .local)
    (hl : (px.line == py.line) = true) (hxy : (x == y) = false) (h1 : ([a, b].all (foldedForSure 8)) = false) (h2 : ([a, b].all (constantsAlone 8)) = false) (na : nostar a = true) (nb : nostar b = true) (ba : isBor ca = false) (bb : isBor cb = false) (ha : PE X a (tE X.K M Z ca)) (hb : PE X b (tE X.K M Z cb)) :
    PS X (.Assign [.Tuple [.Name x px, .Name y py] kt pt] (.Tuple [a, b] k2 pt2) spos) (tS X.K M Z (.par i j ca cb)) := by
  refine (ps_par g.calm (by rw [g.hN]; exact g.nd) (by rw [g.hN]; exact hi) (by rw [g.hN]; exact hj) hij (g.lc _ hx) (g.lc _ hy) (pa_cons ha (pa_cons hb pa_nil (star_no nb _ _)) (star_no na _ _)) (swp_two hkd (g.lc _ hx) (g.lc _ hy) hl hxy h1 h2 na nb)).evi fun D σ H h => ?_
  obtain ⟨W, σd, z, b, p⟩ := h
  unfold evS at p
  refine tS_of b p fun d z' W' H' v l b' r p1 => tS_of b' p1 fun d2 z2 W2 H2 v2 l2 b2 r2 p2 => ⟨v, v2, rfl, ?_⟩
  exact p2 W2 _ H2 Mo.refl (BI.set (BI.set b2 (Rp.mo l2.toMo _ _ ((Rpx_no ba).mp r))) ((Rpx_no bb).mp r2))
end
end EV

namespace EV
open PySem L2
/-! ### classes, attributes -/
section
variable {K : PySem.W.Frag} {M : Mx} {Z : Cxt} {W : Wd} {σd : Sg} {z : Sto} {σ : St} {H : Hp}
theorem Ats.get {k : Nat} {f : Str} (hk : W.S.nm k = some f) : ∀ {us : List (Str × V)} {fs : List (Nat × D)} {d : D}, Ats K W H us fs → getN k fs = some d → ∃ v, us.lookup f = some v ∧ Rp K W H v d
  | [], [], d, _, e => by cases e
  | (g, v) :: us, (j, x) :: fs, d, h, e => by
    unfold getN at e
    by_cases q : j = k
    · rw [if_pos q] at e
      cases e
      subst q
      have hg : W.S.nm j = some g := h.1.1
      rw [hk] at hg; cases hg
      exact ⟨v, by simp [List.lookup], h.1.2⟩
    · rw [if_neg q] at e
      obtain ⟨v', e1, r⟩ := Ats.get hk h.2 e
      have hg : W.S.nm j = some g := h.1.1
      have ne : (f == g) = false := by
        rw [beq_eq_false_iff_ne]
        intro z
        exact q (W.S.inj j k f (by rw [hg, z]) hk)
      exact ⟨v', by simp [List.lookup, ne, e1], r⟩
  | [], _ :: _, _, h, _ => h.elim
  | _ :: _, [], _, h, _ => h.elim
theorem Ats.none {m : Str} (hm : ∀ j, W.S.nm j ≠ some m) : ∀ {us : List (Str × V)} {fs : List (Nat × D)}, Ats K W H us fs → us.lookup m = none
  | [], [], _ => rfl
  | (g, v) :: us, (j, x) :: fs, h => by
    have hg : W.S.nm j = some g := h.1.1
    have ne : (m == g) = false := by
      rw [beq_eq_false_iff_ne]
      intro z
      exact hm j (by rw [hg, z])
    simp [List.lookup, ne, Ats.none hm h.2]
  | [], _ :: _, h => h.elim
  | _ :: _, [], h => h.elim
theorem Ats.put {k : Nat} {f : Str} {v : V} {d : D} (hk : W.S.nm k = some f) (r : Rp K W H v d) : ∀ {us : List (Str × V)} {fs : List (Nat × D)}, Ats K W H us fs → Ats K W H (putF f v us) (putN k d fs)
  | [], [], _ => ⟨⟨hk, r⟩, trivial⟩
  | (g, w) :: us, (j, x) :: fs, h => by
    have hg : W.S.nm j = some g := h.1.1
    unfold putF putN
    by_cases q : j = k
    · subst q
      rw [hk] at hg; cases hg
      rw [if_pos rfl, if_pos rfl]
      exact ⟨⟨hk, r⟩, h.2⟩
    · rw [if_neg q, if_neg (fun z => q (W.S.inj j k f (by rw [hg, z]) hk))]
      exact ⟨h.1, Ats.put hk r h.2⟩
  | [], _ :: _, h => h.elim
  | _ :: _, [], h => h.elim
theorem Ats.len : ∀ {us : List (Str × V)} {fs : List (Nat × D)}, Ats K W H us fs → us.length = fs.length
  | [], [], _ => rfl
  | p :: us, q :: fs, h => by rw [List.length_cons, List.length_cons, Ats.len h.2]
  | [], _ :: _, h => h.elim
  | _ :: _, [], h => h.elim
/-- an instance, as it stands -/
theorem ins_at (b : BIm K M W σd z σ H) {c n : Nat} {d : D} {fs : List (Nat × D)} {v : V} (e : insAt z c d = some (n, fs)) (r : Rp K W H v d) :
    ∃ a C dx us, d = .loc n ∧ v = .ref a ∧ W.L[n]? = some a ∧ M.W0.S.cl c = some C ∧ H a = some (.ins C dx us) ∧ Ats K W H us fs := by
  unfold insAt at e
  cases d with
  | loc m =>
    dsimp only at e
    split at e
    · rename_i c' fs' hc
      split at e
      · rename_i hcc
        cases e
        subst hcc
        obtain ⟨a, rfl, ha⟩ := r
        obtain ⟨a', ha', C, dx, us, q1, q2, q3⟩ := b.sr.cs.get hc
        rw [ha] at ha'; cases ha'
        exact ⟨a, C, dx, us, rfl, rfl, ha, by rw [← b.le.S]; exact q1, q2, q3⟩
      · cases e
    · cases e
  | _ => cases e
/-- a dict, as it stands -/
def DcR (K : PySem.W.Frag) (W : Wd) (H : Hp) (a : Addr) : Bool → List (List Ky × D) → Prop
  | true, kvs => ∃ us, H a = some (.dT us) ∧ Dts K W H us kvs
  | false, kvs => ∃ us, H a = some (.dK us) ∧ Dks K W H us kvs
theorem dct_at (b : BIm K M W σd z σ H) {t : Bool} {n : Nat} {d : D} {kvs : List (List Ky × D)} {v : V} (e : dctAt z t d = some (n, kvs)) (r : Rp K W H v d) :
    ∃ a, d = .loc n ∧ v = .ref a ∧ W.L[n]? = some a ∧ DcR K W H a t kvs := by
  unfold dctAt at e
  cases d with
  | loc m =>
    dsimp only at e
    split at e
    · rename_i t' kvs' hc
      split at e
      · rename_i ht
        cases e
        subst ht
        obtain ⟨a, rfl, ha⟩ := r
        obtain ⟨a', ha', q⟩ := b.sr.cs.get hc
        rw [ha] at ha'; cases ha'
        refine ⟨a, rfl, rfl, ha, ?_⟩
        cases t' with
        | true => exact q
        | false => exact q
      · cases e
    · cases e
  | _ => cases e
def notsup : PySem.Expr → Bool
  | .Call _ [] [] _ => false
  | _ => true
theorem base_ok {o : PySem.Expr} {f : Str} {env : PySem.Env} {w : Sem Value} (h : notsup o = true) : attributeBase o f env w = w := by
  cases o with
  | Call fn args kws p =>
    cases args with
    | nil => cases kws with
      | nil => exact absurd h Bool.false_ne_true
      | cons k ks => cases fn <;> rfl
    | cons a as => cases fn <;> rfl
  | _ => rfl
theorem sE_attr {X : Cx} {e : PySem.Expr} {f : Str} {pos : PySem.Pos} {c k : Nat} {ca : C} (A : AttAt X M c k f) (hs : notsup e = true) (he : PE X e (tE X.K M Z ca)) : PE X (.Attribute e f pos) (tE X.K M Z (.attr ca c k)) := by
  obtain ⟨C, hC, hcls, hno, hnm⟩ := A.ex
  refine (pe_fld he (base_ok hs)).evi fun σ H Q h => ?_
  obtain ⟨W, σd, z, b, p⟩ := h
  refine one b p fun d v z2 W2 H2 l b2 r p2 => ?_
  obtain ⟨d', e', q⟩ := Post.lift p2 b2
  cases hi : insAt z2 c d with
  | none => rw [hi] at e'; cases e'
  | some pr =>
    obtain ⟨n, fs⟩ := pr
    rw [hi] at e'
    have r' : Rp X.K W2 H2 v d := by
      cases d with
      | lst ds => cases hi
      | _ => exact r
    obtain ⟨a, C', dx, us, rfl, rfl, ha, hC', hH, at_⟩ := ins_at b2 hi r'
    rw [hC] at hC'; cases hC'
    obtain ⟨w, hw, rw'⟩ := Ats.get (by rw [b2.le.S]; exact hnm) at_ e'
    exact ⟨a, C, dx, us, w, rfl, hH, hcls, hno, hw, q W2 H2 Le.refl b2 w ((Rpx_no rfl).mpr rw')⟩
/-! ### methods -/
theorem meth_tree {o : PySem.Expr} {m : Str} {apos pos : PySem.Pos} {es : List PySem.Expr} {env : PySem.Env} (hs : notsup o = true) (hst : ∀ e ∈ es, nostar e = true) (hlen : es.length < 20) (hl : (apos.endLine == pos.line) = true) :
    eval (.Call (.Attribute o m apos) es [] pos) env = (do
      let ov ← eval o env
      standAt apos.atName
      let (f, first) ← holding [ov] (getMethod ov m (plainOf o env))
      callWith pos f first (backTo pos (starEach es env)) (backToKw pos (keywordEach [] env))) := by
  refine mcall_of (base_ok hs) fun ov => mcall_line ?_ hl
  have h1 : (backTo pos (starEach es env)).all (fun x => !x.1) = true := by
    have := plain_args hst pos env
    rw [List.all_eq_not_any_not]
    simp only [Bool.not_not]
    rw [this]; rfl
  unfold methodCallForm
  rw [h1]
  show (true && true && decide (es.length + 0 + 0 < 30)) = true
  simp; omega
theorem sE_meth {X : Cx} {o : PySem.Expr} {m : Str} {apos pos : PySem.Pos} {es : List PySem.Expr} {c f : Nat} {ca : C} {cs : Cs} (MA : MethAt X M Z c f m) (tk : Takes X M.wx) (hs : notsup o = true) (hl : (apos.endLine == pos.line) = true) (hst : ∀ e ∈ es, nostar e = true) (hlen : es.length < 20)
    (hnil : es = [] → cs = .nil) (hb : hasBor cs = false) (hba : isBor ca = false) (he : PE X o (tE X.K M Z ca)) (ha : PA X es (tEs X.K M Z cs)) : PE X (.Call (.Attribute o m apos) es [] pos) (tE X.K M Z (.meth c f ca cs)) := by
  obtain ⟨C, k, adr, fd, ps, hC, hcls, hm, F, hr, hbd, hno⟩ := MA.ex
  refine ⟨fun pins s σ H Q I h => ?_⟩
  obtain ⟨W, σd, z, b, p⟩ := h
  have HE : tE X.K M Z ca σ H fun x H1 => ∃ a dx us, x = .ref a ∧ H1 a = some (.ins C dx us) ∧ us.lookup m = none ∧ tEs X.K M Z cs σ H1 fun vs H2 => spF X.K M.W0.S Z.cl M.xr f (x :: vs) H2 Q (WE M.wx σ) := by
    refine ⟨W, σd, z, b, (Post.of_bind p).mono fun d z1 W1 H1 l1 b1 p1 v r => ?_⟩
    have r := (Rpx_no hba).mp r
    have p2 := Post.of_bind p1
    obtain ⟨pr, hi, q⟩ := Post.lift p2 b1
    obtain ⟨n, fs⟩ := pr
    obtain ⟨a, C', dx, us, rfl, rfl, hL, hC', hH, at_⟩ := ins_at b1 hi r
    rw [hC] at hC'; cases hC'
    refine ⟨a, dx, us, rfl, hH, Ats.none (fun j => by rw [b1.le.S]; exact hno j) at_, W1, σd, z1, b1, (Post.of_bind (q W1 H1 Le.refl b1)).mono fun ds z2 W2 H2 l2 b2 p3 vs rv => ?_⟩
    refine call_sp (cs := .nil) (ds := .loc n :: ds) b2 ((Rpsx_no rfl).mpr ⟨Rp.mo l2.toMo _ _ r, (Rpsx_no hb).mp rv⟩) (Post.mono p3 fun d' z3 W3 H3 l3 b3 q3 v rv => q3 v ((Rpx_no rfl).mpr rv))
  refine PySem.W.methodCall_KW (pl := plainOf o X.env) (thn (he.run pins s σ H _ I HE) fun u s1 ⟨x, H1, I1, rx, a, dx, us, ex, ea, hlk, q⟩ => ?_) (meth_tree hs hst hlen hl)
  subst ex
  obtain rfl : u = Value.ref a := rx
  refine getmeth_ok I1 ea hcls hm hlk ?_
  cases es with
  | nil =>
    obtain rfl := hnil rfl
    obtain ⟨W1, σ1, z1, b1, q1⟩ := q
    exact PySem.W.callWith_K0 (first := [.ref a]) I1.kIn hm.kp (run_fnS (us := [.ref a]) (vs := [.ref a]) F hr hbd (passAt tk σ) I1 (.cons rfl .nil) (q1 W1 H1 Le.refl b1 [] trivial))
  | cons e0 es0 =>
    refine PySem.W.callWith_K (first := [.ref a]) (h₀ := X.base) I1.ok.mod.kin hm.kp (thn (ha.run pos pins s1 σ H1 _ I1 q) fun us' s2 ⟨vs, H2, I2, r, q2⟩ => ⟨I2.kIn, ?_⟩) (star_no (hst e0 List.mem_cons_self) _ _) (plain_args (fun e' he' => hst e' (List.mem_cons_of_mem _ he')) pos X.env)
    exact run_fnS (us := .ref a :: us') (vs := .ref a :: vs) F hr hbd (passAt tk σ) I2 (.cons rfl r) q2
/-! ### a new instance -/
theorem passN {X : Cx} : Passes (L2.CX X.prog X.w) X (fun _ _ _ => False) := fun _ _ _ _ _ _ _ h => by
  obtain ⟨_, _, _, _, _, _, _, _, _, _, _, _, h⟩ := h
  exact h.elim
theorem sE_make {X : Cx} {x : Str} {p pos : PySem.Pos} {es : List PySem.Expr} {c f : Nat} {cs : Cs} (MA : MakeAt X M Z c f x) (hg : Gl X x) (hdb : (x == ("__debug__" : Str)) = false) (hst : ∀ e ∈ es, nostar e = true) (hnil : es = [] → cs = .nil)
    (hb : hasBor cs = false) (ha : PA X es (tEs X.K M Z cs)) : PE X (.Call (.Name x p) es [] pos) (tE X.K M Z (.make c f cs)) := by
  obtain ⟨C, k, adr, fd, ps, hC, hm, hk, F, hr, hbd⟩ := MA.ex
  have key : ∀ (σ : St) (H : Hp) (Q : VK), tE X.K M Z (.make c f cs) σ H Q → tEs X.K M Z cs σ H fun vs H1 => ∀ x dx, H1 x = none → H1 dx = none → dx ≠ x → spF X.K M.W0.S Z.cl M.xr f (.ref x :: vs) (upd (upd H1 dx (.own x)) x (.ins C dx [])) (fun v H2 => v = .non ∧ Q (.ref x) H2) (fun _ _ _ => False) := fun σ H Q h => by
    obtain ⟨W, σd, z, b, p⟩ := h
    refine ⟨W, σd, z, b, (Post.of_bind p).mono fun ds z1 W1 H1 l1 b1 p1 vs r x dx hx hdx ne => ?_⟩
    have r := (Rpsx_no hb).mp r
    have sm : Same H1 (upd (upd H1 dx (.own x)) x (.ins C dx [])) := fun b u e => by
      rw [upd_ne (ne_of_none e hx), upd_ne (ne_of_none e hdx)]; exact e
    obtain ⟨l2, sr2⟩ := b1.sr.newC (c := .ins c []) sm hx (fun l => ⟨C, dx, [], (by rw [show (W1.addL x).S = W1.S from rfl, b1.le.S]; exact hC), upd_same, trivial⟩) (fun o e xs z => by rw [upd_same] at e; cases e; cases z)
    have b2 := b1.step l2 sr2
    have hlen : z1.cs.length = W1.L.length := b1.sr.cs.len.symm
    have rn : Rp X.K (W1.addL x) (upd (upd H1 dx (.own x)) x (.ins C dx [])) (.ref x) (.loc z1.cs.length) := ⟨x, rfl, by
      show (W1.L ++ [x])[z1.cs.length]? = some x
      rw [hlen]; simp⟩
    have p1 : Post X.K M W1 σd σ H1 (match callE (Z.cl f (.loc z1.cs.length :: ds)) false (.loc z1.cs.length :: ds) ⟨z1.st, z1.cs ++ [.ins c []]⟩ with
      | .ok .non z' => Res.ok (D.loc z1.cs.length) z'
      | _ => .err) fun d z' W' H' => ∀ v, Rp X.K W' H' v d → Q v H' := Post.mono p1 fun d z' W' H' l b q v rv => q v ((Rpx_no rfl).mpr rv)
    have b2N : BIm X.K (noW M) (W1.addL x) σd ⟨z1.st, z1.cs ++ [.ins c []]⟩ σ (upd (upd H1 dx (.own x)) x (.ins C dx [])) := b2
    refine call_sp (M := noW M) (cs := .nil) (ds := .loc z1.cs.length :: ds) b2N ((Rpsx_no rfl).mpr ⟨rn, Rps.mo l2.toMo _ _ r⟩) ?_
    show Post X.K (noW M) _ σd σ _ (callE (Z.cl f (.loc z1.cs.length :: ds)) false (.loc z1.cs.length :: ds) ⟨z1.st, z1.cs ++ [.ins c []]⟩) _
    cases e : callE (Z.cl f (.loc z1.cs.length :: ds)) false (.loc z1.cs.length :: ds) ⟨z1.st, z1.cs ++ [.ins c []]⟩ with
    | ok d z' =>
      rw [e] at p1
      cases d with
      | non =>
        intro W' H' l b' v rv
        exact ⟨rv, p1 W' H' (l2.trans l) b' (.ref x) (Rp.mo l.toMo _ _ rn)⟩
      | _ => exact p1.elim
    | exn x' z' => rw [e] at p1; exact p1.elim
    | err => rw [e] at p1; exact p1.elim
  refine ⟨fun pins s σ H Q I h => ?_⟩
  have q := key σ H Q h
  refine wpAny_Call_Name_kw (ld_glob I hg hm ?_ hdb)
  cases es with
  | nil =>
    obtain rfl := hnil rfl
    obtain ⟨W1, σ1, z1, b1, q1⟩ := q
    exact PySem.W.callWith_K0 I.kIn hk.kp (run_make (us := []) (vs := []) hk F hr hbd (.nil) passN I .nil (q1 W1 H Le.refl b1 [] trivial))
  | cons e0 es0 =>
    refine PySem.W.callWith_K (h₀ := X.base) I.ok.mod.kin hk.kp (thn (ha.run pos pins s σ H _ I q) fun us' s2 ⟨vs, H2, I2, r, q2⟩ => ⟨I2.kIn, ?_⟩) (star_no (hst e0 List.mem_cons_self) _ _) (plain_args (fun e' he' => hst e' (List.mem_cons_of_mem _ he')) pos X.env)
    exact run_make hk F hr hbd .nil passN I2 r (fun x dx h1 h2 h3 => by
      have := q2 x dx h1 h2 h3
      rw [List.append_nil]
      exact this)
end
end EV

namespace EV
open PySem L2
section
variable {K : PySem.W.Frag} {M : Mx} {Z : Cxt} {W W' : Wd} {σd : Sg} {z : Sto} {σ : St} {H H' : Hp}
/-! ### keys -/
def KeyV (H : Hp) (t : Bool) (v : V) (q : List Ky) : Prop := match t with
  | false => ∃ k, q = [k] ∧ v = kV (kyK k)
  | true => ∃ b, v = .ref b ∧ H b = some (.tup ((q.map kyK).map kV))
theorem KeyV.mo (m : Mo W H W' H') {t : Bool} {v : V} {q : List Ky} (h : KeyV H t v q) : KeyV H' t v q := by
  cases t with
  | false => exact h
  | true =>
    obtain ⟨b, e, q⟩ := h
    exact ⟨b, e, m.tups _ _ q⟩
def tKey (K : PySem.W.Frag) (M : Mx) (Z : Cxt) (t : Bool) (c : C) : TE := fun σ H Q => ∃ W σd z, BIm K M W σd z σ H ∧ Post K M W σd σ H (evE Z c σd z) fun d _ W' H' => ∀ v, (∀ q, keyD t d = some q → KeyV H' t v q) → Q v H'
theorem keyOne_ok {d : D} {k : Ky} {v : V} (e : keyOne d = some k) (r : Rp K W H v d) : v = kV (kyK k) := by
  cases d with
  | int i => cases e; exact r
  | str s => cases e; exact r.1
  | _ => cases e
theorem keysOf_ok : ∀ {ds : List D} {q : List Ky} {vs : List V}, keysOf ds = some q → Rps K W H vs ds → vs = (q.map kyK).map kV
  | [], q, [], e, _ => by cases e; rfl
  | d :: ds, q, v :: vs, e, r => by
    simp only [keysOf] at e
    cases e1 : keyOne d with
    | none => rw [e1] at e; cases e
    | some k =>
      rw [e1] at e
      obtain ⟨q', e2, rfl⟩ := Option.map_eq_some_iff.mp (show (keysOf ds).map (k :: ·) = some q from e)
      rw [List.map_cons, List.map_cons, ← keyOne_ok e1 r.1, ← keysOf_ok e2 r.2]
  | [], _, _ :: _, _, r => r.elim
  | _ :: _, _, [], _, r => r.elim
theorem keysOf_kyOk : ∀ {ds : List D} {q : List Ky} {vs : List V}, keysOf ds = some q → Rps K W H vs ds → ∀ k ∈ q, KyOk k
  | [], q, [], e, _ => by cases e; intro k hk; cases hk
  | d :: ds, q, v :: vs, e, r => by
    simp only [keysOf] at e
    cases e1 : keyOne d with
    | none => rw [e1] at e; cases e
    | some k =>
      rw [e1] at e
      obtain ⟨q', e2, rfl⟩ := Option.map_eq_some_iff.mp (show (keysOf ds).map (k :: ·) = some q from e)
      intro k' hk
      rcases List.mem_cons.mp hk with rfl | hk
      · cases d with
        | int i => cases e1; trivial
        | str s => cases e1; exact r.1.2
        | _ => cases e1
      · exact keysOf_kyOk e2 r.2 k' hk
  | [], _, _ :: _, _, r => r.elim
  | _ :: _, _, [], _, r => r.elim
theorem sK_one {X : Cx} {e : PySem.Expr} {c : C} (hb : isBor c = false) (he : PE X e (tE X.K M Z c)) : PE X e (tKey X.K M Z false c) := he.evi fun σ H Q h => by
  obtain ⟨W, σd, z, b, p⟩ := h
  refine ⟨W, σd, z, b, p.mono fun d z' W' H' l b' q v r => q v fun ks hk => ?_⟩
  have r := (Rpx_no hb).mp r
  obtain ⟨k, e1, rfl⟩ := Option.map_eq_some_iff.mp (show (keyOne d).map ([·]) = some ks from hk)
  exact ⟨k, rfl, keyOne_ok e1 r⟩
theorem sK_tup {X : Cx} {es : List PySem.Expr} {k : Nat} {pos : PySem.Pos} {cs : Cs} (hb : hasBor cs = false) (hl : lenC cs ≤ lim) (h : PA X es (tEs X.K M Z cs)) : PE X (.Tuple es k pos) (tKey X.K M Z true (.tup cs)) := by
  refine (pe_tup h).evi fun σ H Q h => ?_
  obtain ⟨W, σd, z, b, p⟩ := h
  refine ⟨W, σd, z, b, ?_⟩
  have p := Post.of_bind p
  cases e : evEs Z cs σd z with
  | exn _ _ => rw [e] at p; exact p
  | err => rw [e] at p; exact p
  | ok ds z1 =>
    rw [e] at p
    intro W1 H1 l1 b1 vs r
    have r := (Rpsx_no hb).mp r
    refine ⟨by rw [r.len, evEs_len e]; exact hl, fun p' hp => ?_⟩
    have sm : Same H1 (upd H1 p' (.tup vs)) := Same.new hp
    refine p W1 H1 l1 b1 W1 _ (Le.same sm) (BI.same b1 sm) (.ref p') fun q hq => ⟨p', rfl, ?_⟩
    rw [upd_same, keysOf_ok (show keysOf ds = some q from hq) r]
theorem pe_kt {X : Cx} {es : List PySem.Expr} {k : Nat} {pos : PySem.Pos} {cs : Cs} (hb : hasBor cs = false) (hl : lenC cs ≤ lim) (h : PA X es (tEs X.K M Z cs)) : PE X (.Tuple es k pos) (tE X.K M Z (.ktt cs)) := by
  refine (pe_tup h).evi fun σ H Q h => ?_
  obtain ⟨W, σd, z, b, p⟩ := h
  refine ⟨W, σd, z, b, ?_⟩
  have p := Post.of_bind p
  cases e : evEs Z cs σd z with
  | exn _ _ => rw [e] at p; exact p
  | err => rw [e] at p; exact p
  | ok ds z1 =>
    rw [e] at p
    intro W1 H1 l1 b1 vs r
    have p : Post X.K M W1 σd σ H1 ((lift (keysOf ds) z1).bind fun q z => Res.ok (D.ktp q) z) fun d x W' H' => ∀ (v : V), Rpx X.K (C.ktt cs) W' σd σ H' v d → Q v H' := p W1 H1 l1 b1
    have r := (Rpsx_no hb).mp r
    refine ⟨by rw [r.len, evEs_len e]; exact hl, fun p' hp => ?_⟩
    cases ek : keysOf ds with
    | none => rw [ek] at p; exact p.elim
    | some q =>
      rw [ek] at p
      have sm : Same H1 (upd H1 p' (.tup vs)) := Same.new hp
      refine p W1 _ (Le.same sm) (BI.same b1 sm) (.ref p') ((Rpx_no (by rfl)).mpr ⟨p', rfl, ?_⟩)
      exact ⟨by rw [upd_same, keysOf_ok ek r], keysOf_kyOk ek r⟩
theorem keysOf_kyD : ∀ q : List Ky, keysOf (q.map kyD) = some q
  | [] => rfl
  | k :: q => by
    have e : keyOne (kyD k) = some k := by cases k <;> rfl
    show (keyOne (kyD k)).bind _ = _
    rw [e, Option.bind_some, keysOf_kyD q]
    rfl
theorem sK_ktv {X : Cx} {e : PySem.Expr} {c : C} (hb : isBor c = false) (he : PE X e (tE X.K M Z c)) : PE X e (tKey X.K M Z true (.ktv c)) := he.evi fun σ H Q h => by
  obtain ⟨W, σd, z, b, p⟩ := h
  refine ⟨W, σd, z, b, ?_⟩
  have p := Post.of_bind p
  refine p.mono fun d z' W' H' l b' q v r => ?_
  have r := (Rpx_no hb).mp r
  cases d with
  | ktp ks =>
    refine q W' H' Le.refl b' v fun q0 hq => ?_
    have hq : keysOf (ks.map kyD) = some q0 := hq
    rw [keysOf_kyD] at hq
    cases hq
    obtain ⟨a, e, q1, _⟩ := r
    exact ⟨a, e, q1⟩
  | _ => exact q.elim
/-! ### what a dict holds -/
theorem decide_ky {a b : List Ky} : decide (a.map kyK = b.map kyK) = decide (a = b) := by
  by_cases h : a = b
  · subst h; simp
  · rw [decide_eq_false h, decide_eq_false fun z => h (kyKs_inj z)]
theorem Dts.find (q : List Ky) : ∀ {us : List (List Key × V)} {ks : List (List Ky × D)}, Dts K W H us ks → match dFind ks q with
    | some d => ∃ w, valV us (q.map kyK) = some w ∧ Rp K W H w d
    | none => valV us (q.map kyK) = none
  | [], [], _ => rfl
  | u :: us, k :: ks, h => by
    have ih := Dts.find q h.2
    unfold dFind valV at *
    rw [List.find?_cons, List.find?_cons, h.1.1, decide_ky]
    by_cases e : k.1 = q
    · rw [decide_eq_true e]
      exact ⟨u.2, rfl, h.1.2⟩
    · rw [decide_eq_false e]
      exact ih
  | [], _ :: _, h => h.elim
  | _ :: _, [], h => h.elim
theorem Dks.find (x : Ky) : ∀ {us : List (Key × V)} {ks : List (List Ky × D)}, Dks K W H us ks → match dFind ks [x] with
    | some d => ∃ w, valV us (kyK x) = some w ∧ Rp K W H w d
    | none => valV us (kyK x) = none
  | [], [], _ => rfl
  | u :: us, k :: ks, h => by
    have ih := Dks.find x h.2
    obtain ⟨y, e1, e2⟩ := h.1.1
    unfold dFind valV at *
    rw [List.find?_cons, List.find?_cons, e1, e2]
    by_cases e : y = x
    · subst e
      simp only [decide_true]
      exact ⟨u.2, rfl, h.1.2⟩
    · rw [decide_eq_false (p := [y] = [x]) (by simpa using e), decide_eq_false (p := kyK y = kyK x) fun z => e (kyK_inj z)]
      exact ih
  | [], _ :: _, h => h.elim
  | _ :: _, [], h => h.elim
theorem Dts.any (q : List Ky) : ∀ {us : List (List Key × V)} {ks : List (List Ky × D)}, Dts K W H us ks → (us.any fun p => decide (p.1 = q.map kyK)) = ks.any fun p => decide (p.1 = q)
  | [], [], _ => rfl
  | u :: us, k :: ks, h => by rw [List.any_cons, List.any_cons, Dts.any q h.2, h.1.1, decide_ky]
  | [], _ :: _, h => h.elim
  | _ :: _, [], h => h.elim
theorem Dts.mapP {q : List Ky} {v : V} {d : D} (r : Rp K W H v d) : ∀ {us : List (List Key × V)} {ks : List (List Ky × D)}, Dts K W H us ks → Dts K W H (us.map fun p => if p.1 = q.map kyK then (p.1, v) else p) (ks.map fun p => if p.1 = q then (p.1, d) else p)
  | [], [], _ => trivial
  | u :: us, k :: ks, h => by
    refine ⟨?_, Dts.mapP r h.2⟩
    by_cases e : k.1 = q
    · have e2 : u.1 = q.map kyK := by rw [h.1.1, e]
      dsimp only
      rw [if_pos e2, if_pos e]
      exact ⟨h.1.1, r⟩
    · have e2 : ¬ u.1 = q.map kyK := fun z => e (kyKs_inj (by rw [← h.1.1, z]))
      dsimp only
      rw [if_neg e2, if_neg e]
      exact h.1
  | [], _ :: _, h => h.elim
  | _ :: _, [], h => h.elim
theorem Dts.push {q : List Ky} {v : V} {d : D} (r : Rp K W H v d) : ∀ {us : List (List Key × V)} {ks : List (List Ky × D)}, Dts K W H us ks → Dts K W H (us ++ [(q.map kyK, v)]) (ks ++ [(q, d)])
  | [], [], _ => ⟨⟨rfl, r⟩, trivial⟩
  | u :: us, k :: ks, h => ⟨h.1, Dts.push r h.2⟩
  | [], _ :: _, h => h.elim
  | _ :: _, [], h => h.elim
theorem Dts.put {q : List Ky} {v : V} {d : D} {us : List (List Key × V)} {ks : List (List Ky × D)} (h : Dts K W H us ks) (r : Rp K W H v d) : Dts K W H (putK us (q.map kyK) v) (dPut ks q d) := by
  unfold putK dPut
  rw [h.any q]
  split
  · exact h.mapP r
  · exact h.push r
theorem Dks.any (x : Ky) : ∀ {us : List (Key × V)} {ks : List (List Ky × D)}, Dks K W H us ks → (us.any fun p => decide (p.1 = kyK x)) = ks.any fun p => decide (p.1 = [x])
  | [], [], _ => rfl
  | u :: us, k :: ks, h => by
    obtain ⟨y, e1, e2⟩ := h.1.1
    rw [List.any_cons, List.any_cons, Dks.any x h.2, e1, e2]
    congr 1
    by_cases e : y = x
    · subst e; simp
    · rw [decide_eq_false (p := [y] = [x]) (by simpa using e), decide_eq_false (p := kyK y = kyK x) fun z => e (kyK_inj z)]
  | [], _ :: _, h => h.elim
  | _ :: _, [], h => h.elim
theorem Dks.mapP {x : Ky} {v : V} {d : D} (r : Rp K W H v d) : ∀ {us : List (Key × V)} {ks : List (List Ky × D)}, Dks K W H us ks → Dks K W H (us.map fun p => if p.1 = kyK x then (p.1, v) else p) (ks.map fun p => if p.1 = [x] then (p.1, d) else p)
  | [], [], _ => trivial
  | u :: us, k :: ks, h => by
    refine ⟨?_, Dks.mapP r h.2⟩
    obtain ⟨y, e1, e2⟩ := h.1.1
    by_cases e : y = x
    · subst e
      dsimp only
      rw [if_pos e2, if_pos e1]
      exact ⟨⟨y, e1, e2⟩, r⟩
    · have e3 : ¬ u.1 = kyK x := fun z => e (kyK_inj (by rw [← e2, z]))
      have e4 : ¬ k.1 = [x] := fun z => e (by rw [e1] at z; simpa using z)
      dsimp only
      rw [if_neg e3, if_neg e4]
      exact h.1
  | [], _ :: _, h => h.elim
  | _ :: _, [], h => h.elim
theorem Dks.push {x : Ky} {v : V} {d : D} (r : Rp K W H v d) : ∀ {us : List (Key × V)} {ks : List (List Ky × D)}, Dks K W H us ks → Dks K W H (us ++ [(kyK x, v)]) (ks ++ [([x], d)])
  | [], [], _ => ⟨⟨⟨x, rfl, rfl⟩, r⟩, trivial⟩
  | u :: us, k :: ks, h => ⟨h.1, Dks.push r h.2⟩
  | [], _ :: _, h => h.elim
  | _ :: _, [], h => h.elim
theorem Dks.put {x : Ky} {v : V} {d : D} {us : List (Key × V)} {ks : List (List Ky × D)} (h : Dks K W H us ks) (r : Rp K W H v d) : Dks K W H (putK us (kyK x) v) (dPut ks [x] d) := by
  unfold putK dPut
  rw [h.any x]
  split
  · exact h.mapP r
  · exact h.push r
theorem Dts.len : ∀ {us : List (List Key × V)} {ks : List (List Ky × D)}, Dts K W H us ks → us.length = ks.length
  | [], [], _ => rfl
  | u :: us, k :: ks, h => by rw [List.length_cons, List.length_cons, Dts.len h.2]
  | [], _ :: _, h => h.elim
  | _ :: _, [], h => h.elim
theorem Dks.len : ∀ {us : List (Key × V)} {ks : List (List Ky × D)}, Dks K W H us ks → us.length = ks.length
  | [], [], _ => rfl
  | u :: us, k :: ks, h => by rw [List.length_cons, List.length_cons, Dks.len h.2]
  | [], _ :: _, h => h.elim
  | _ :: _, [], h => h.elim
theorem DcR.get {a : Addr} {t : Bool} {kvs : List (List Ky × D)} {v : V} {q : List Ky} (h : DcR K W H a t kvs) (k : KeyV H t v q) : ∃ o, DGet H a v o ∧ match dFind kvs q with
    | some d => ∃ w, o = some w ∧ Rp K W H w d
    | none => o = none := by
  cases t with
  | true =>
    obtain ⟨us, e, r⟩ := h
    obtain ⟨b, rfl, eb⟩ := k
    exact ⟨_, DGet.t e eb, r.find q⟩
  | false =>
    obtain ⟨us, e, r⟩ := h
    obtain ⟨x, rfl, rfl⟩ := k
    exact ⟨_, DGet.k e, r.find x⟩
theorem DcR.isD {a : Addr} {t : Bool} {kvs : List (List Ky × D)} (h : DcR K W H a t kvs) : IsD H a := by
  cases t with
  | true => obtain ⟨us, e, _⟩ := h; exact .inr ⟨us, .inl e⟩
  | false => obtain ⟨us, e, _⟩ := h; exact .inl ⟨us, .inl e⟩
/-- a dict is written -/
theorem dct_put (b : BIm K M W σd z σ H) {t : Bool} {n : Nat} {a : Addr} {kvs : List (List Ky × D)} {v w : V} {q : List Ky} {d : D} (ha : W.L[n]? = some a) (h : DcR K W H a t kvs) (k : KeyV H t v q) (r : Rp K W H w d) (hl : kvs.length < lim) :
    ∃ H', DPut H a v w H' ∧ Mo W H W H' ∧ BIm K M W σd ⟨z.st, z.cs.set n (.dct t (dPut kvs q d))⟩ σ H' := by
  cases t with
  | true =>
    obtain ⟨us, e, ru⟩ := h
    obtain ⟨c, rfl, ec⟩ := k
    refine ⟨_, DPut.t e ec (by rw [ru.len, ← lim_eq]; exact hl), b.wrC ha (fun xs z => by rw [e] at z; cases z) (fun _ _ z => by rw [e] at z; cases z) fun m => ⟨_, upd_same, (ru.put r).mo m⟩⟩
  | false =>
    obtain ⟨us, e, ru⟩ := h
    obtain ⟨x, rfl, rfl⟩ := k
    refine ⟨_, DPut.k e (by rw [ru.len, ← lim_eq]; exact hl), b.wrC ha (fun xs z => by rw [e] at z; cases z) (fun _ _ z => by rw [e] at z; cases z) fun m => ⟨_, upd_same, (ru.put r).mo m⟩⟩
theorem hu1 {X : Cx} (h : X.A.units + 70 < cLine) : X.A.units + 1 < cLine := by omega
theorem Rpx.loc {c : C} {v : V} {n : Nat} (h : Rpx K c W σd σ H v (.loc n)) : Rp K W H v (.loc n) := by
  unfold Rpx at h
  split at h
  · exact h
  · exact h
theorem dctAt_loc {t : Bool} {d : D} {p : Nat × List (List Ky × D)} (e : dctAt z t d = some p) : ∃ n, d = .loc n := by
  cases d with
  | loc n => exact ⟨n, rfl⟩
  | _ => cases e
theorem sE_dget {X : Cx} {ed ek : PySem.Expr} {pos : PySem.Pos} {t : Bool} {cd ck : C} (hu : X.A.units + 70 < cLine) (hs : noslice ek = true) (hd : PE X ed (tE X.K M Z cd)) (hk : PE X ek (tKey X.K M Z t ck)) : PE X (.Subscript ed ek pos) (tE X.K M Z (.dget t cd ck)) := by
  refine (pe_dget (hu1 hu) hd hk (plainIx hs)).evi fun σ H Q h => ?_
  obtain ⟨W, σd, z, b, p⟩ := h
  refine ⟨W, σd, z, b, (Post.of_bind p).mono fun d z1 W1 H1 l1 b1 p1 v r => ⟨W1, σd, z1, b1, (Post.of_bind p1).mono fun k z2 W2 H2 l2 b2 p2 w kv => ?_⟩⟩
  obtain ⟨x, e, q⟩ := Post.lift p2 b2
  cases e1 : dctAt z2 t d with
  | none => rw [e1] at e; cases e
  | some pr =>
    obtain ⟨n, kvs⟩ := pr
    rw [e1] at e
    cases e2 : keyD t k with
    | none => simp only [e2] at e; cases e
    | some ks =>
      simp only [e2] at e
      have e : dFind kvs ks = some x := e
      obtain ⟨m, rfl⟩ := dctAt_loc e1
      obtain ⟨a, _, rfl, ha, dr⟩ := dct_at b2 e1 (Rp.mo l2.toMo _ _ (Rpx.loc r))
      obtain ⟨o, g, s⟩ := dr.get (kv ks e2)
      rw [e] at s
      obtain ⟨u, rfl, ru⟩ := s
      exact ⟨a, u, rfl, g, q W2 H2 Le.refl b2 u ((Rpx_no rfl).mpr ru)⟩
theorem sE_din {X : Cx} {ed ek : PySem.Expr} {pos : PySem.Pos} {t n : Bool} {cd ck : C} (hu : X.A.units + 70 < cLine) (hs : noset ed = true) (hd : PE X ed (tE X.K M Z cd)) (hk : PE X ek (tKey X.K M Z t ck)) : PE X (.Compare ek [if n then .NotIn else .In] [ed] pos) (tE X.K M Z (.din t n ck cd)) := by
  have go : ∀ (σ : St) (H : Hp) (Q : VK), tE X.K M Z (.din t n ck cd) σ H Q → tKey X.K M Z t ck σ H fun y H1 => tE X.K M Z cd σ H1 fun x H2 => ∃ a o, x = .ref a ∧ DGet H2 a y o ∧ Q (.bl (if n then !o.isSome else o.isSome)) H2 := fun σ H Q h => by
    obtain ⟨W, σd, z, b, p⟩ := h
    refine ⟨W, σd, z, b, (Post.of_bind p).mono fun k z1 W1 H1 l1 b1 p1 w kv => ⟨W1, σd, z1, b1, (Post.of_bind p1).mono fun d z2 W2 H2 l2 b2 p2 v r => ?_⟩⟩
    obtain ⟨x, e, q⟩ := Post.lift p2 b2
    cases e1 : dctAt z2 t d with
    | none => rw [e1] at e; cases e
    | some pr =>
      obtain ⟨n', kvs⟩ := pr
      rw [e1] at e
      cases e2 : keyD t k with
      | none => simp only [e2] at e; cases e
      | some ks =>
        simp only [e2] at e
        cases e
        obtain ⟨m, rfl⟩ := dctAt_loc e1
        obtain ⟨a, _, rfl, ha, dr⟩ := dct_at b2 e1 (Rpx.loc r)
        obtain ⟨o, g, s⟩ := dr.get ((kv ks e2).mo l2.toMo)
        have hs : o.isSome = (dFind kvs ks).isSome := by
          cases e3 : dFind kvs ks with
          | none =>
            rw [e3] at s
            have s : o = none := s
            rw [s]; rfl
          | some d =>
            rw [e3] at s
            obtain ⟨u, rfl, _⟩ := s
            rfl
        refine ⟨a, o, rfl, g, ?_⟩
        rw [hs]
        exact q W2 H2 Le.refl b2 _ ((Rpx_no rfl).mpr rfl)
  have nb : ∀ op, behindInMarks op ed = false := fun op => by
    cases ed <;> first | (cases op <;> rfl) | exact absurd hs Bool.false_ne_true
  cases n with
  | false => exact (pe_cmp (pc_din (hu1 hu) hk hd) (nb _)).evi fun σ H Q h => go σ H Q h
  | true => exact (pe_cmp (pc_dnotin (hu1 hu) hk hd) (nb _)).evi fun σ H Q h => go σ H Q h
theorem sE_newD {X : Cx} {pos : PySem.Pos} (t : Bool) : PE X (.Dict [] [] pos) (tE X.K M Z (.newD t)) := by
  have go : ∀ (σ : St) (H : Hp) (Q : VK) (o : HO), (o = if t then .dT [] else .dK []) → tE X.K M Z (.newD t) σ H Q → ∀ p, H p = none → Q (.ref p) (upd H p o) := fun σ H Q o ho h p hp => by
    obtain ⟨W, σd, z, b, q⟩ := h
    have sm : Same H (upd H p o) := Same.new hp
    have cr : ∀ l : Le W H (W.addL p) (upd H p o), CellRp X.K (W.addL p) (upd H p o) p (.dct t []) := fun l => by
      subst ho
      cases t with
      | true => exact ⟨[], upd_same, trivial⟩
      | false => exact ⟨[], upd_same, trivial⟩
    obtain ⟨l, sr⟩ := b.sr.newC sm hp cr (fun o' e xs z => by rw [upd_same] at e; cases e; subst ho; cases t <;> cases z)
    refine q _ _ l (b.step l sr) _ ((Rpx_no rfl).mpr ⟨p, rfl, ?_⟩)
    show (W.L ++ [p])[z.cs.length]? = some p
    rw [← b.sr.cs.len]; simp
  cases t with
  | true => exact pe_dnewT.evi fun σ H Q h => go σ H Q _ rfl h
  | false => exact pe_dnewK.evi fun σ H Q h => go σ H Q _ rfl h
theorem sE_dgetD {X : Cx} {ed ek ex : PySem.Expr} {apos pos : PySem.Pos} {t : Bool} {cd ck cx : C} (hu : X.A.units + 70 < cLine) (hs : notsup ed = true) (hl : (apos.endLine == pos.line) = true) (h1 : nostar ek = true) (h2 : nostar ex = true) (hb : isBor cx = false)
    (hd : PE X ed (tE X.K M Z cd)) (hk : PE X ek (tKey X.K M Z t ck)) (hx : PE X ex (tE X.K M Z cx)) : PE X (.Call (.Attribute ed "get" apos) [ek, ex] [] pos) (tE X.K M Z (.dgetD t cd ck cx)) := by
  have st : starEach [ek, ex] X.env = [(false, eval ek X.env), (false, eval ex X.env)] := by rw [star_no h1, star_no h2]; rfl
  refine (pe_dget2 (hu1 hu) hd hk hx ⟨base_ok hs, by rw [st]; rfl, hl, by rw [st]; rfl⟩).evi fun σ H Q h => ?_
  obtain ⟨W, σd, z, b, p⟩ := h
  refine ⟨W, σd, z, b, (Post.of_bind p).mono fun d z1 W1 H1 l1 b1 p1 v r => ?_⟩
  obtain ⟨pr, e1, q1⟩ := Post.lift (Post.of_bind p1) b1
  obtain ⟨n, kvs1⟩ := pr
  obtain ⟨m, rfl⟩ := dctAt_loc e1
  obtain ⟨a, _, rfl, ha, dr⟩ := dct_at b1 e1 (Rpx.loc r)
  refine ⟨a, rfl, dr.isD, W1, σd, z1, b1, (Post.of_bind (q1 W1 H1 Le.refl b1)).mono fun k z2 W2 H2 l2 b2 p2 vk kv => ⟨W2, σd, z2, b2, (Post.of_bind p2).mono fun x z3 W3 H3 l3 b3 p3 vx rx => ?_⟩⟩
  obtain ⟨y, e, q⟩ := Post.lift p3 b3
  cases e2 : dctAt z3 t (.loc m) with
  | none => rw [e2] at e; cases e
  | some pr =>
    obtain ⟨n', kvs⟩ := pr
    rw [e2] at e
    cases e3 : keyD t k with
    | none => simp only [e3] at e; cases e
    | some ks =>
      simp only [e3] at e
      have e : some ((dFind kvs ks).getD x) = some y := e
      obtain ⟨a', _, ea, ha', dr'⟩ := dct_at b3 e2 (Rp.mo l3.toMo _ _ (Rp.mo l2.toMo _ _ (Rpx.loc r)))
      cases ea
      obtain ⟨o, g, s⟩ := dr'.get ((kv ks e3).mo l3.toMo)
      refine ⟨o, g, q W3 H3 Le.refl b3 _ ((Rpx_no rfl).mpr ?_)⟩
      cases e4 : dFind kvs ks with
      | none =>
        rw [e4] at s e
        have s : o = none := s
        cases e
        rw [s]
        exact (Rpx_no hb).mp rx
      | some d =>
        rw [e4] at s e
        obtain ⟨u, rfl, ru⟩ := s
        cases e
        exact ru
theorem sT_din {X : Cx} {ed ek : PySem.Expr} {pos : PySem.Pos} {t n : Bool} {cd ck : C} (hu : X.A.units + 70 < cLine) (hs : noset ed = true) (hd : PE X ed (tE X.K M Z cd)) (hk : PE X ek (tKey X.K M Z t ck)) : PT X (.Compare ek [if n then .NotIn else .In] [ed] pos) (tB X.K M Z (.din t n ck cd)) := by
  have go : ∀ (σ : St) (H : Hp) (R : Bool → Hp → Prop), tB X.K M Z (.din t n ck cd) σ H R → tKey X.K M Z t ck σ H fun y H1 => tE X.K M Z cd σ H1 fun x H2 => ∃ a o, x = .ref a ∧ DGet H2 a y o ∧ ∃ k, V.bl (if n then !o.isSome else o.isSome) = .bl k ∧ R k H2 := fun σ H R h => by
    obtain ⟨W, σd, z, b, p⟩ := h
    have p := Post.of_bind p
    have p : Post X.K M W σd σ H ((evE Z ck σd z).bind fun y z => (evE Z cd σd z).bind fun x z => lift ((dctAt z t x).bind fun p => (keyD t y).map fun q => D.bl (if n then !(dFind p.2 q).isSome else (dFind p.2 q).isSome)) z) fun d z' W' H' => Post X.K M W' σd σ H' (lift (truD d) z') fun b _ _ H' => R b H' := p
    refine ⟨W, σd, z, b, (Post.of_bind p).mono fun k z1 W1 H1 l1 b1 p1 w kv => ⟨W1, σd, z1, b1, (Post.of_bind p1).mono fun d z2 W2 H2 l2 b2 p2 v r => ?_⟩⟩
    obtain ⟨x, e, q⟩ := Post.lift p2 b2
    cases e1 : dctAt z2 t d with
    | none => rw [e1] at e; cases e
    | some pr =>
      obtain ⟨n', kvs⟩ := pr
      rw [e1] at e
      cases e2 : keyD t k with
      | none => simp only [e2] at e; cases e
      | some ks =>
        simp only [e2] at e
        cases e
        obtain ⟨m, rfl⟩ := dctAt_loc e1
        obtain ⟨a, _, rfl, ha, dr⟩ := dct_at b2 e1 (Rpx.loc r)
        obtain ⟨o, g, s⟩ := dr.get ((kv ks e2).mo l2.toMo)
        have hs : o.isSome = (dFind kvs ks).isSome := by
          cases e3 : dFind kvs ks with
          | none =>
            rw [e3] at s
            have s : o = none := s
            rw [s]; rfl
          | some d =>
            rw [e3] at s
            obtain ⟨u, rfl, _⟩ := s
            rfl
        refine ⟨a, o, rfl, g, _, rfl, ?_⟩
        rw [hs]
        exact q W2 H2 Le.refl b2 W2 H2 Le.refl b2
  have nb : ∀ op, behindInMarks op ed = false := fun op => by
    cases ed <;> first | (cases op <;> rfl) | exact absurd hs Bool.false_ne_true
  cases n with
  | false => exact (pt_cmp (pc_din (hu1 hu) hk hd) (nb _)).evi fun σ H R h => go σ H R h
  | true => exact (pt_cmp (pc_dnotin (hu1 hu) hk hd) (nb _)).evi fun σ H R h => go σ H R h
theorem sS_dput {X : Cx} {ed ek ev : PySem.Expr} {p' pos : PySem.Pos} {t : Bool} {cd ck cv : C} (hu : X.A.units + 70 < cLine) (hs : nolc ev = true) (hb : isBor cv = false) (hd : PE X ed (tE X.K M Z cd)) (hk : PE X ek (tKey X.K M Z t ck)) (hv : PE X ev (tE X.K M Z cv)) :
    PS X (.Assign [.Subscript ed ek p'] ev pos) (tS X.K M Z (.dput t cd ck cv)) := by
  refine (ps_dput (hu1 hu) hd hk hv (sw_no hs _ _ _)).evi fun D σ H h => ?_
  obtain ⟨W, σd, z, b, p⟩ := h
  unfold evS at p
  refine tS_of b p fun w z1 W1 H1 v l1 b1 r1 p1 => tS_of b1 p1 fun x z2 W2 H2 vx l2 b2 r2 p2 => ⟨W2, σd, z2, b2, (PostS.of_bS p2).mono fun k z3 W3 H3 l3 b3 p3 vk kv => ?_⟩
  cases e1 : dctAt z3 t x with
  | none => simp only [e1] at p3; exact p3.elim
  | some pr =>
    obtain ⟨n, kvs⟩ := pr
    cases e2 : keyD t k with
    | none => simp only [e1, e2] at p3; exact p3.elim
    | some ks =>
      simp only [e1, e2] at p3
      split at p3
      · rename_i hl
        obtain ⟨m, rfl⟩ := dctAt_loc e1
        obtain ⟨a, _, rfl, ha, dr⟩ := dct_at b3 e1 (Rp.mo l3.toMo _ _ (Rpx.loc r2))
        obtain ⟨H4, hp, mo, b4⟩ := dct_put b3 ha dr (kv ks e2) (Rp.mo l3.toMo _ _ (Rp.mo l2.toMo _ _ ((Rpx_no hb).mp r1))) hl
        exact ⟨a, H4, rfl, hp, p3 W3 σ H4 mo b4⟩
      · exact p3.elim
theorem sS_setA {X : Cx} {eo ev : PySem.Expr} {f : Str} {p' pos : PySem.Pos} {i c k : Nat} {cv : C} (A : AttAt X M c k f) (hs : nolc ev = true) (hb : isBor cv = false) (ho : PE X eo (tE X.K M Z (.var i))) (hv : PE X ev (tE X.K M Z cv)) :
    PS X (.Assign [.Attribute eo f p'] ev pos) (tS X.K M Z (.setA i c k cv)) := by
  obtain ⟨C, hC, hcls, hno, hnm⟩ := A.ex
  refine (ps_fld ho hv (sw_no hs _ _ _)).evi fun D σ H h => ?_
  obtain ⟨W, σd, z, b, p⟩ := h
  unfold evS at p
  refine tS_of b p fun w z1 W1 H1 v l1 b1 r1 p1 => ?_
  split at p1
  · rename_i x hx
    split at p1
    · rename_i n fs hi
      split at p1
      · rename_i hl
        have ho' : evE Z (.var i) σd z1 = .ok x z1 := by unfold evE; rw [hx]
        refine ⟨W1, σd, z1, b1, ?_⟩
        rw [ho']
        intro W2 H2 l2 b2 u ru
        obtain ⟨a, C', dx, us, rfl, rfl, hL, hC', hH, at_⟩ := ins_at b2 hi ((Rpx_no rfl).mp ru)
        rw [hC] at hC'; cases hC'
        obtain ⟨mo, b3⟩ := b2.wrC (o := .ins C dx (putF f v us)) (c := .ins c (putN k w fs)) hL (fun xs z => by rw [hH] at z; cases z) (fun _ _ z => by rw [hH] at z; cases z) fun m =>
          ⟨C, dx, _, by rw [b2.le.S]; exact hC, upd_same, Ats.mo m (Ats.put (by rw [b2.le.S]; exact hnm) (Rp.mo l2.toMo _ _ ((Rpx_no hb).mp r1)) at_)⟩
        exact ⟨a, C, dx, us, rfl, hH, hcls, hno, by rw [at_.len]; omega, PostS.mo p1 l2.toMo W2 σ _ mo b3⟩
      · exact p1.elim
    · exact p1.elim
  · exact p1.elim
/-! ### texts -/
theorem strsOf_ok : ∀ {ds : List D} {ys : List (List Nat)} {vs : List V}, strsOf ds = some ys → Rps K W H vs ds → vs = (ys.map fun y => (⟨y.toArray⟩ : Str)).map V.str ∧ ∀ y ∈ ys, StrOk y
  | [], ys, [], e, _ => by cases e; exact ⟨rfl, fun y h => nomatch h⟩
  | d :: ds, ys, v :: vs, e, r => by
    cases d with
    | str s =>
      obtain ⟨zs, e2, rfl⟩ := Option.map_eq_some_iff.mp (show (strsOf ds).map (s :: ·) = some ys from e)
      obtain ⟨h1, h2⟩ := strsOf_ok e2 r.2
      refine ⟨by rw [List.map_cons, List.map_cons, ← h1, r.1.1], fun y hy => ?_⟩
      rcases List.mem_cons.mp hy with rfl | hy
      · exact r.1.2
      · exact h2 y hy
    | _ => cases e
  | [], _, _ :: _, _, r => r.elim
  | _ :: _, _, [], _, r => r.elim
theorem joinS_eq (x : List Nat) : ∀ ys : List (List Nat), TL.joinL x ys = joinS x ys
  | [] => rfl
  | [p] => rfl
  | p :: q :: r => by
    show p ++ (x ++ TL.joinL x (q :: r)) = p ++ (x ++ joinS x (q :: r))
    rw [joinS_eq x (q :: r)]
theorem str_tl {s t : Str} (h : TL.tl s = TL.tl t) : s = t := by
  cases s with | mk a =>
  cases t with | mk b =>
  have h : a.toList = b.toList := h
  rw [Array.toList_inj.mp h]
theorem join_ok (x : List Nat) (ys : List (List Nat)) : Txt.join (⟨x.toArray⟩ : Str) (ys.map fun y => (⟨y.toArray⟩ : Str)) = ⟨(joinS x ys).toArray⟩ := by
  refine str_tl ?_
  rw [TL.join_eq, TL.tl_join, List.map_map]
  have e : (TL.tl ∘ fun y : List Nat => (⟨y.toArray⟩ : Str)) = id := funext fun y => by simp [TL.tl]
  rw [e, List.map_id]
  have e2 : TL.tl (⟨x.toArray⟩ : Str) = x := by simp [TL.tl]
  have e3 : TL.tl (⟨(joinS x ys).toArray⟩ : Str) = joinS x ys := by simp [TL.tl]
  rw [e2, e3, joinS_eq]
theorem joinS_mem {x : List Nat} {c : Nat} : ∀ {ys : List (List Nat)}, c ∈ joinS x ys → c ∈ x ∨ ∃ y ∈ ys, c ∈ y
  | [], h => by cases h
  | [p], h => .inr ⟨p, List.mem_cons_self, h⟩
  | p :: q :: r, h => by
    rcases List.mem_append.mp h with h | h
    · exact .inr ⟨p, List.mem_cons_self, h⟩
    · rcases List.mem_append.mp h with h | h
      · exact .inl h
      · rcases joinS_mem h with h | ⟨y, hy, h⟩
        · exact .inl h
        · exact .inr ⟨y, List.mem_cons_of_mem _ hy, h⟩
theorem joinS_len {x : List Nat} : ∀ ys : List (List Nat), (joinS x ys).length ≤ (ys.map (·.length)).sum + ys.length * x.length
  | [] => Nat.zero_le _
  | [p] => by simp [joinS]
  | p :: q :: r => by
    have ih := joinS_len (x := x) (q :: r)
    rw [joinS, List.length_append, List.length_append, List.map_cons, List.sum_cons, List.length_cons, Nat.succ_mul]
    omega
theorem sE_sjoin {X : Cx} {ea eb : PySem.Expr} {apos pos : PySem.Pos} {ca cb : C} (hs : notsup ea = true) (hl : (apos.endLine == pos.line) = true) (h1 : nostar eb = true) (ha : PE X ea (tE X.K M Z ca)) (hb : PE X eb (tE X.K M Z cb)) : PE X (.Call (.Attribute ea "join" apos) [eb] [] pos) (tE X.K M Z (.sjoin ca cb)) := by
  refine (pe_join ha hb (by rw [star_no h1]; rfl) (base_ok hs) hl).evi fun σ H Q h => ?_
  obtain ⟨W, σd, z, b, p⟩ := h
  refine ⟨W, σd, z, b, (Post.of_bind p).mono fun d1 z1 W1 H1 l1 b1 p1 v1 r1 => ?_⟩
  have r1 := Rpx.op r1
  have key : ∀ x, d1 = .str x → v1 = .str ⟨x.toArray⟩ ∧ StrOk x := fun x e => by subst e; exact r1
  cases d1 with
  | str x =>
    obtain ⟨rfl, okx⟩ := key x rfl
    refine ⟨⟨_, rfl⟩, W1, σd, z1, b1, (Post.of_bind p1).mono fun d2 z2 W2 H2 l2 b2 p2 v2 r2 => ?_⟩
    have r2 := Rpx.op r2
    obtain ⟨d, e, q⟩ := Post.lift p2 b2
    have fin : ∀ (a : Addr) (vs : List V) (ds : List D), v2 = .ref a → (SqL X.K H2 a vs ∨ SqT X.K H2 a vs) → Rps X.K W2 H2 vs ds → ((strsOf ds).bind fun ys => if (ys.map (·.length)).sum + ys.length * x.length ≤ lim then some (D.str (joinS x ys)) else none) = some d →
        ∃ a p, ∃ ys : List Str, V.str ⟨x.toArray⟩ = .str a ∧ [v2] = [V.ref p] ∧ (SqL X.K H2 p (ys.map V.str) ∨ SqT X.K H2 p (ys.map V.str)) ∧ (ys.map (·.length)).sum + ys.length * a.length ≤ 16777216 ∧ Q (.str (Txt.join a ys)) H2 := fun a vs ds ev sq rr e => by
      cases e1 : strsOf ds with
      | none => rw [e1] at e; cases e
      | some ys =>
        rw [e1] at e
        have e : (if (ys.map (·.length)).sum + ys.length * x.length ≤ lim then some (D.str (joinS x ys)) else none) = some d := e
        split at e
        · rename_i hlim
          cases e
          obtain ⟨evs, oks⟩ := strsOf_ok e1 rr
          subst ev evs
          refine ⟨⟨x.toArray⟩, a, ys.map fun y => ⟨y.toArray⟩, rfl, rfl, sq, ?_, ?_⟩
          · rw [List.map_map, List.length_map, strLen]
            have e3 : ((fun s : Str => s.length) ∘ fun y : List Nat => (⟨y.toArray⟩ : Str)) = fun y => y.length := funext fun y => strLen y
            show (ys.map ((fun s : Str => s.length) ∘ fun y : List Nat => (⟨y.toArray⟩ : Str))).sum + _ ≤ _
            rw [e3]
            exact hlim
          · rw [join_ok]
            refine q W2 H2 Le.refl b2 _ ((Rpx_no rfl).mpr ⟨rfl, Nat.le_trans (joinS_len ys) hlim, fun c hc => ?_⟩)
            rcases joinS_mem hc with h | ⟨y, hy, h⟩
            · exact okx.2 c h
            · exact (oks y hy).2 c h
        · cases e
    cases d2 with
    | lst ds =>
      obtain ⟨a, vs, rfl, f, q1, rr⟩ := r2
      exact fin a vs ds rfl (.inl (SqL.of q1)) rr e
    | tup ds =>
      obtain ⟨a, vs, rfl, q1, rr⟩ := r2
      exact fin a vs ds rfl (.inr q1) rr e
    | _ => cases e
  | _ => exact p1.elim
end
end EV

namespace EV
open PySem L2
section
variable {K : PySem.W.Frag} {M : Mx} {Z : Cxt} {W W' : Wd} {σd : Sg} {z : Sto} {σ : St} {H H' : Hp}
/-! ### lists in cells -/
theorem derC_or (b : BIm K M W σd z σ H) {d : D} {v : V} (r : Rp K W H v d) : derC z d = d ∨ ∃ n a vs ds, d = .loc n ∧ derC z d = .lst ds ∧ v = .ref a ∧ W.L[n]? = some a ∧ z.cs[n]? = some (.lst ds) ∧ H a = some (.lst vs) ∧ Rps K W H vs ds := by
  cases d with
  | loc n =>
    have e : derC z (.loc n) = (match z.cs[n]? with
      | some (Cell.lst ds) => D.lst ds
      | _ => D.loc n) := rfl
    rw [e]
    cases hc : z.cs[n]? with
    | none => exact .inl rfl
    | some c =>
      cases c with
      | lst ds =>
        obtain ⟨a, rfl, ha⟩ := r
        obtain ⟨a', ha', vs, q1, r'⟩ := b.sr.cs.get hc
        rw [ha] at ha'; cases ha'
        exact .inr ⟨n, a, vs, ds, rfl, rfl, rfl, ha, by first | exact hc | rfl, q1, r'⟩
      | _ => exact .inl rfl
  | _ => exact .inl rfl
theorem sE_lenL {X : Cx} (hc : X.calm = true) {p pos : PySem.Pos} {e : PySem.Expr} {c : C} (hs : nostar e = true) (hg : Gl X (Str.ofString (biName .len))) (hm : X.mg (Str.ofString (biName .len)) = biMg .len) (hb : isBor c = false) (ha : PE X e (tE X.K M Z c)) :
    PE X (.Call (.Name (Str.ofString (biName .len)) p) [e] [] pos) (tE X.K M Z (.lenL c)) := by
  refine (pe_bi hc .len (t := tEs X.K M Z (.cons c .nil)) (by simpa using hs) hg hm (sEs_cons hs ha sEs_nil)).evi fun σ H Q h => ?_
  obtain ⟨W, σd, z, bi, p⟩ := h
  refine ⟨W, σd, z, bi, ?_⟩
  have p := Post.of_bind p
  unfold evEs
  cases e : evE Z c σd z with
  | exn _ _ => rw [e] at p; exact p
  | err => rw [e] at p; exact p
  | ok d z1 =>
    rw [e] at p
    intro W1 H1 l1 b1 vs r
    have p : Post X.K M W1 σd σ H1 ((lift (lenD (derC z1 d)) z1).bind fun n z => Res.ok (D.int (n : Nat)) z) fun d _ W' H' => ∀ v, Rpx X.K (.lenL c) W' σd σ H' v d → Q v H' := p W1 H1 l1 b1
    have hb' : hasBor (.cons c .nil) = false := by simp [hasBor, hb]
    have r := (Rpsx_no hb').mp r
    obtain ⟨n, e1, q⟩ := Post.lift (Post.of_bind p) b1
    obtain ⟨v, rfl⟩ : ∃ v, vs = [v] := by
      cases vs with
      | nil => exact r.elim
      | cons v vs =>
        cases vs with
        | nil => exact ⟨v, rfl⟩
        | cons _ _ => exact r.2.elim
    rcases derC_or b1 r.1 with h | ⟨m, a, us, ds, rfl, h, rfl, _, _, q1, r2⟩
    · rw [h] at e1
      refine bi_ok (b := .len) (ds := [d]) (d := .int (n : Nat)) (fun a h => l1.none_of h) b1 (Rpsx.op ((Rpsx_no hb').mpr r)) ?_ fun W2 H2 l2 b2 v r2 => ?_
      · show (lenD d).map (fun (n : Nat) => D.int (n : Int)) = _
        rw [e1]; rfl
      · exact q W1 H1 Le.refl b1 W2 H2 l2 b2 v ((Rpx_no rfl).mpr r2)
    · rw [h] at e1
      cases e1
      refine ⟨_, us.length, rfl, .inl ⟨us, SqL.of q1, rfl⟩, ?_⟩
      rw [r2.len]
      exact q W1 H1 Le.refl b1 W1 H1 Le.refl b1 _ ((Rpx_no rfl).mpr rfl)
theorem sE_newL {X : Cx} (hc : X.calm = true) {p pos : PySem.Pos} {e : PySem.Expr} {c : C} (hs : nostar e = true) (hg : Gl X (Str.ofString (biName .list))) (hm : X.mg (Str.ofString (biName .list)) = biMg .list) (hb : isBor c = false) (ha : PE X e (tE X.K M Z c)) :
    PE X (.Call (.Name (Str.ofString (biName .list)) p) [e] [] pos) (tE X.K M Z (.newL c)) := by
  refine (pe_bi hc .list (t := tEs X.K M Z (.cons c .nil)) (by simpa using hs) hg hm (sEs_cons hs ha sEs_nil)).evi fun σ H Q h => ?_
  obtain ⟨W, σd, z, bi, p⟩ := h
  refine ⟨W, σd, z, bi, ?_⟩
  have p := Post.of_bind p
  unfold evEs
  cases e : evE Z c σd z with
  | exn _ _ => rw [e] at p; exact p
  | err => rw [e] at p; exact p
  | ok d z1 =>
    rw [e] at p
    intro W1 H1 l1 b1 vs r
    have hb' : hasBor (.cons c .nil) = false := by simp [hasBor, hb]
    have r := (Rpsx_no hb').mp r
    obtain ⟨v, rfl⟩ : ∃ v, vs = [v] := by
      cases vs with
      | nil => exact r.elim
      | cons v vs =>
        cases vs with
        | nil => exact ⟨v, rfl⟩
        | cons _ _ => exact r.2.elim
    have p := p W1 H1 l1 b1
    cases d with
    | lst ds =>
      obtain ⟨a, us, rfl, f, q1, r2⟩ := r.1
      refine ⟨a, us, rfl, .inl (SqL.of q1), fun p' hp => ?_⟩
      have sm : Same H1 (upd H1 p' (.lst us)) := Same.new hp
      obtain ⟨l, sr⟩ := b1.sr.newC (c := .lst ds) sm hp (fun l => ⟨us, upd_same, Rps.mo l.toMo _ _ r2⟩) (fun o e xs z => by rw [upd_same] at e; cases e; cases z)
      refine p _ _ l (b1.step l sr) _ ((Rpx_no rfl).mpr ⟨p', rfl, ?_⟩)
      show (W1.L ++ [p'])[z1.cs.length]? = some p'
      rw [← b1.sr.cs.len]; simp
    | _ => exact p.elim
end
end EV

namespace EV
open PySem L2
section
variable {K : PySem.W.Frag} {M : Mx} {Z : Cxt} {W W' : Wd} {σd : Sg} {z : Sto} {σ : St} {H H' : Hp} {G : Gi}
/-! ### raise -/
theorem sS_raise {X : Cx} {x : Str} {ns : List Str} {c : Nat} {cs : Cs} {e : PySem.Expr} {es : List PySem.Expr} {p pos pos' : PySem.Pos} (hc : X.calm = true) (tk : Takes X M.wx) (hxr : M.xr = xrOf G.xc X.K) (hx : G.xc[c]? = some (x, ns)) (R : RaiseAt X x ns)
    (hg : Gl X x) (hdb : (x == ("__debug__" : Str)) = false) (hb : hasBor cs = false) (hl : lenC cs = ns.length) (h20 : ns.length ≤ 20) (hs : ∀ e' ∈ e :: es, nostar e' = true) (ha : PA X (e :: es) (tEs X.K M Z cs)) :
    PS X (.Raise (some (.Call (.Name x p) (e :: es) [] pos)) none pos') (tS X.K M Z (.raise c cs)) := by
  obtain ⟨fI, fd, ps, k, T, iC, tI, F, hr, hbd, hm⟩ := R.ex
  have h1 : starEach (e :: es) X.env = (false, eval e X.env) :: starEach es X.env := star_no (hs e List.mem_cons_self) _ _
  have h2 : (backTo pos (starEach es X.env)).any (·.1) = false := plain_args (fun e' he => hs e' (List.mem_cons_of_mem _ he)) pos X.env
  refine (ps_raise hc tk (pmk_oex T iC tI F hr hbd .nil passN hg hm ha hdb h1 h2)).evi fun D σ H h => ?_
  obtain ⟨W, σd, z, b, p⟩ := h
  unfold evS at p
  refine ⟨W, σd, z, b, ?_⟩
  have p := PostS.of_bS (σ := σ) p
  cases q0 : evEs Z cs σd z with
  | exn _ _ => rw [q0] at p; exact p
  | err => rw [q0] at p; exact p
  | ok ds z1 =>
  rw [q0] at p
  intro W1 H1 l1 b1 vs r
  have p1 := p W1 H1 l1 b1
  have r := (Rpsx_no hb).mp r
  dsimp only at p1
  split at p1
  · rename_i hfl
    have hlen : ds.length = ns.length := by rw [evEs_len q0, hl]
    have hv : vs.length = ns.length := by rw [r.len, hlen]
    refine ⟨by omega, fun a hn => ⟨a, vs, by simp, hv, upd_same, fun d hd ne => ?_⟩⟩
    have hd1 : H1 d = none := by rw [upd_ne ne] at hd; exact hd
    refine ⟨rfl, d, (ns.zip vs).reverse, upd_same, by rw [upd_ne ne, upd_same], hd1, ?_⟩
    have e : upd (del (upd (upd (upd H1 a (exo a (He.ga X.K x) none)) d (exd d (ns.zip vs).reverse)) a (exo a (He.ga X.K x) (some d))) a) d (.xd (ns.zip vs).reverse) = upd H1 d (.xd (ns.zip vs).reverse) := by
      funext q
      by_cases e1 : q = d
      · subst e1; rw [upd_same, upd_same]
      · rw [upd_ne e1, upd_ne e1]
        by_cases e2 : q = a
        · subst e2; rw [del_same, hn]
        · rw [del_ne e2, upd_ne e2, upd_ne e1, upd_ne e2]
    rw [e]
    have sm : Same H1 (upd H1 d (.xd (ns.zip vs).reverse)) := Same.new hd1
    refine p1 _ _ W1 σ _ (BI.same b1 sm) ?_
    rw [hxr]
    exact ⟨x, ns, d, vs, W1, hx, rfl, rfl, hv, upd_same, hfl, Rps.mo (Le.same sm).toMo _ _ r⟩
  · exact p1.elim
/-! ### try -/
/-- a handler's answer, as a reading: i the slot of the caught exception, ea its place, al the fields of the classes that it takes -/
def tXe (K : PySem.W.Frag) (M : Mx) (xc : List (Str × List Str)) (al : List (List Str)) (i : Nat) (ea : Addr) (cls : PySem.Value) (dd : Option Addr) (e : Xe) : TE := fun σ H Q =>
  ∃ W σd z x d, BIm K M W σd z σ H ∧ σ[i]? = some (some (.ref ea)) ∧ xrOf xc K x cls dd H ∧ (∀ n ns, xc[x.c]? = some (n, ns) → ns ∈ al) ∧ e.ev x.ds = some d ∧ ∀ W' H' v, Le W H W' H' → BIm K M W' σd z σ H' → xrOf xc K x cls dd H' → Rp K W' H' v d → Q v H'
def tXes (K : PySem.W.Frag) (M : Mx) (xc : List (Str × List Str)) (al : List (List Str)) (i : Nat) (ea : Addr) (cls : PySem.Value) (dd : Option Addr) (e : Xe) : TA := fun σ H Q =>
  ∃ W σd z x ds, BIm K M W σd z σ H ∧ σ[i]? = some (some (.ref ea)) ∧ xrOf xc K x cls dd H ∧ (∀ n ns, xc[x.c]? = some (n, ns) → ns ∈ al) ∧ e.evs x.ds = some ds ∧ ∀ W' H' vs, Le W H W' H' → BIm K M W' σd z σ H' → xrOf xc K x cls dd H' → Rps K W' H' vs ds → Q vs H'
theorem xrOf.same {xc : List (Str × List Str)} {x : Xn} {cls : PySem.Value} {dd : Option Addr} (h : xrOf xc K x cls dd H) (sm : Same H H') : xrOf xc K x cls dd H' := by
  obtain ⟨n, ns, d, vs, W, h1, h2, h3, h4, h5, h6, h7⟩ := h
  exact ⟨n, ns, d, vs, W, h1, h2, h3, h4, sm _ _ h5, h6, Rps.mo (Le.same sm).toMo _ _ h7⟩
theorem zip_fst_sub : ∀ (ns : List Str) (vs : List V), ((ns.zip vs).map (·.1)).Sublist ns
  | [], _ => by simp
  | n :: ns, [] => by simp
  | n :: ns, v :: vs => by
    rw [List.zip_cons_cons, List.map_cons]
    exact (zip_fst_sub ns vs).cons_cons n
theorem lookup_zip {ns : List Str} {vs : List V} {k : Nat} {f : Str} {v : V} (nd : ns.Nodup) (h1 : ns[k]? = some f) (h2 : vs[k]? = some v) : (ns.zip vs).reverse.lookup f = some v := by
  have key : ∀ (l : List (Str × V)), (l.map (·.1)).Nodup → (f, v) ∈ l → l.lookup f = some v := fun l => by
    induction l with
    | nil => intro _ h; cases h
    | cons p l ih =>
      intro hn hm
      rw [List.map_cons, List.nodup_cons] at hn
      obtain ⟨g, w⟩ := p
      rcases List.mem_cons.mp hm with h0 | h0
      · cases h0; simp [List.lookup]
      · have ne : (f == g) = false := by
          rw [beq_eq_false_iff_ne]
          intro z
          subst z
          exact hn.1 (List.mem_map.mpr ⟨(f, v), h0, rfl⟩)
        simp [List.lookup, ne, ih hn.2 h0]
  refine key _ ?_ ?_
  · rw [List.map_reverse]
    refine List.pairwise_reverse.mpr (List.Pairwise.imp Ne.symm ?_)
    exact nd.sublist (zip_fst_sub ns vs)
  · rw [List.mem_reverse]
    refine List.mem_of_getElem? (i := k) ?_
    rw [List.getElem?_zip_eq_some]
    exact ⟨h1, h2⟩
/-- a tuple's, a list's items or one thing alone -/
def Xe.row : Xe → Bool
  | .nil | .cons _ _ => true
  | _ => false
/-- the check: an except suite's answer -/
def xeB (N : List Str) (sc : PySem.Scope) (i : Nat) (al : List (List Str)) : Xe → List PySem.Expr → Bool
  | .fld k, es => (match es with
    | [.Attribute (.Name x _) f _] => decide (N[i]? = some x) && visB sc x && okN x && al.all fun l => decide (l[k]? = some f)
    | _ => false)
  | .str s, es => (match es with
    | [.Constant (.str x) _ _] => decide (x.cps.toList = s) && (decide (s.length ≤ lim) && s.all fun c => decide (c < 0x110000))
    | _ => false)
  | .non, es => (match es with
    | [.Constant .none _ _] => true
    | _ => false)
  | .tup a, es => (match es with
    | [.Tuple es _ _] => decide (es.length ≤ 20) && a.row && xeB N sc i al a es
    | _ => false)
  | .lst a, es => (match es with
    | [.List es _] => decide (es.length ≤ 20) && a.row && xeB N sc i al a es
    | _ => false)
  | .nil, es => (match es with
    | [] => true
    | _ => false)
  | .cons a r, es => (match es with
    | e :: es => nostar e && !a.row && r.row && xeB N sc i al a [e] && xeB N sc i al r es
    | _ => false)
theorem pe_xfA {X : Cx} {a : Addr} {oe : PySem.Obj} {cls : PySem.Value} {d : Option Addr} {pn : List (Addr × PySem.Obj)} {e : PySem.Expr} {te : TE} {pos : PySem.Pos} {n : Str} (hz : Zc cls d oe) (hf : ∃ vs, oe.data = .fields vs) (he : PE (X.suite a ((a, oe) :: pn)) e te) (hs : notsup e = true) :
    PE (X.suite a ((a, oe) :: pn)) (.Attribute e n pos) (fun σ H Q => ∃ C, XfC X.K C ∧ PySem.W.findIn X.K (.ref C) n = some none ∧ tXf a cls d C n te σ H Q) :=
  ⟨fun pins s σ H Q I h => by
    obtain ⟨C, T, hno, h⟩ := h
    exact (pe_xf T hno hz hf he (base_ok hs)).run pins s σ H Q I h⟩
section
variable {X : Cx} {N : List Str} {sc : PySem.Scope} {i : Nat} {ea : Addr} {cls : PySem.Value} {dd : Option Addr} {al : List (List Str)} {oe : PySem.Obj} {pn : List (Addr × PySem.Obj)}
theorem evs_len {N : List Str} {sc : PySem.Scope} {i : Nat} {al : List (List Str)} : ∀ {e : Xe} {es : List PySem.Expr} {ds rs : List D}, xeB N sc i al e es = true → e.row = true → e.evs rs = some ds → ds.length = es.length
  | .nil, es, ds, rs, h, _, he => by
    unfold xeB at h
    split at h <;> try (exact absurd h Bool.false_ne_true)
    cases he
    rfl
  | .cons a r, es, ds, rs, h, _, he => by
    unfold xeB at h
    split at h <;> try (exact absurd h Bool.false_ne_true)
    simp only [Bool.and_eq_true, Bool.not_eq_true'] at h
    obtain ⟨⟨⟨⟨hs, ra⟩, rr⟩, ha⟩, hr⟩ := h
    obtain ⟨d, e1, he⟩ := Option.bind_eq_some_iff.mp (show (Xe.ev rs a).bind (fun d => (Xe.evs rs r).map (d :: ·)) = some ds from he)
    obtain ⟨ds', e2, rfl⟩ := Option.map_eq_some_iff.mp he
    rw [List.length_cons, List.length_cons, evs_len hr rr e2]
  | .fld _, _, _, _, _, z, _ | .str _, _, _, _, _, z, _ | .non, _, _, _, _, z, _ | .tup _, _, _, _, _, z, _ | .lst _, _, _, _, _, z, _ => nomatch z
theorem xe_ok (g : Gud X M Z G N sc) (hz : Zc cls dd oe) (hf : ∃ vs, oe.data = .fields vs) : ∀ (e : Xe) (es : List PySem.Expr), xeB N sc i al e es = true →
    (e.row = false → ∃ x, es = [x] ∧ PE (X.suite ea ((ea, oe) :: pn)) x (tXe X.K M G.xc al i ea cls dd e)) ∧ (e.row = true → PA (X.suite ea ((ea, oe) :: pn)) es (tXes X.K M G.xc al i ea cls dd e))
  | .fld k, es, h => by
    refine ⟨fun _ => ?_, fun z => nomatch z⟩
    unfold xeB at h
    split at h <;> try (exact absurd h Bool.false_ne_true)
    simp only [Bool.and_eq_true, decide_eq_true_eq, List.all_eq_true] at h
    obtain ⟨⟨⟨hi, hv⟩, ho⟩, hal⟩ := h
    rename_i x p f p2
    refine ⟨_, rfl, (pe_xfA hz hf (pe_var (i := i) (by show X.N[i]? = _; rw [g.good.hN]; exact hi) (g.good.vis hv) (okN_2 ho).1 (okN_2 ho).2) rfl).evi fun σ H Q h => ?_⟩
    obtain ⟨W, σd, z, xn, d, b, hs, hx, ha, he, q⟩ := h
    obtain ⟨n, ns, dp, vs, W', h1, h2, h3, h4, h5, h6, h7⟩ := id hx
    obtain ⟨xf, no, nd⟩ := g.xf _ n ns h1
    have hf : ns[k]? = some f := hal ns (ha n ns h1)
    have he : xn.ds[k]? = some d := he
    obtain ⟨v, hv, rv⟩ := h7.get he
    have fl : d.fl = true := List.all_eq_true.mp h6 d (List.mem_of_getElem? he)
    refine ⟨_, xf, no f (List.mem_of_getElem? hf), .ref ea, hs, rfl, h2, dp, _, v, h3, h5, lookup_zip nd hf hv, q W H v Le.refl b hx (Rp.flat fl rv)⟩
  | .str s, es, h => by
    refine ⟨fun _ => ?_, fun z => nomatch z⟩
    unfold xeB at h
    split at h <;> try (exact absurd h Bool.false_ne_true)
    simp only [Bool.and_eq_true, decide_eq_true_eq, List.all_eq_true] at h
    obtain ⟨hx, hl, hc⟩ := h
    rename_i x p p2
    refine ⟨_, rfl, pe_str.evi fun σ H Q h => ?_⟩
    obtain ⟨W, σd, z, xn, d, b, _, hxr, _, he, q⟩ := h
    cases he
    refine q W H _ Le.refl b hxr ⟨?_, hl, hc⟩
    subst hx
    rfl
  | .non, es, h => by
    refine ⟨fun _ => ?_, fun z => nomatch z⟩
    unfold xeB at h
    split at h <;> try (exact absurd h Bool.false_ne_true)
    refine ⟨_, rfl, pe_non.evi fun σ H Q h => ?_⟩
    obtain ⟨W, σd, z, xn, d, b, _, hxr, _, he, q⟩ := h
    cases he
    exact q W H _ Le.refl b hxr rfl
  | .nil, es, h => by
    refine ⟨fun z => (nomatch z), fun _ => ?_⟩
    unfold xeB at h
    split at h <;> try (exact absurd h Bool.false_ne_true)
    refine pa_nil.evi fun σ H Q h => ?_
    obtain ⟨W, σd, z, xn, d, b, _, hxr, _, he, q⟩ := h
    cases he
    exact q W H _ Le.refl b hxr trivial
  | .cons a r, es, h => by
    refine ⟨fun z => (nomatch z), fun _ => ?_⟩
    unfold xeB at h
    split at h <;> try (exact absurd h Bool.false_ne_true)
    simp only [Bool.and_eq_true, Bool.not_eq_true'] at h
    obtain ⟨⟨⟨⟨hs, ra⟩, rr⟩, ha⟩, hr⟩ := h
    obtain ⟨x, ex, pa⟩ := (xe_ok g hz hf a _ ha).1 ra
    cases ex
    have pr := (xe_ok g hz hf r _ hr).2 rr
    refine (pa_cons pa pr (star_no hs _ _)).evi fun σ H Q h => ?_
    obtain ⟨W, σd, z, xn, ds, b, h0, hxr, hal, he, q⟩ := h
    obtain ⟨d, e1, he⟩ := Option.bind_eq_some_iff.mp (show (Xe.ev xn.ds a).bind (fun d => (Xe.evs xn.ds r).map (d :: ·)) = some ds from he)
    obtain ⟨ds', e2, rfl⟩ := Option.map_eq_some_iff.mp he
    refine ⟨W, σd, z, xn, d, b, h0, hxr, hal, e1, fun W1 H1 v l1 b1 x1 r1 => ⟨W1, σd, z, xn, ds', b1, h0, x1, hal, e2, fun W2 H2 vs l2 b2 x2 r2 => q W2 H2 (v :: vs) (l1.trans l2) b2 x2 ⟨Rp.mo l2.toMo _ _ r1, r2⟩⟩⟩
  | .tup a, es, h => by
    refine ⟨fun _ => ?_, fun z => nomatch z⟩
    unfold xeB at h
    split at h <;> try (exact absurd h Bool.false_ne_true)
    simp only [Bool.and_eq_true, decide_eq_true_eq] at h
    obtain ⟨⟨hl, ra⟩, ha⟩ := h
    rename_i es _ _
    have pa := (xe_ok g hz hf a _ ha).2 ra
    refine ⟨_, rfl, (pe_tup pa).evi fun σ H Q h => ?_⟩
    obtain ⟨W, σd, z, xn, d, b, h0, hxr, hal, he, q⟩ := h
    obtain ⟨ds, e1, rfl⟩ := Option.map_eq_some_iff.mp (show (Xe.evs xn.ds a).map EV.D.tup = some d from he)
    refine ⟨W, σd, z, xn, ds, b, h0, hxr, hal, e1, fun W1 H1 vs l1 b1 x1 r1 => ⟨?_, fun p hp => ?_⟩⟩
    · have := evs_len ha ra e1
      rw [r1.len, this]
      have : (20 : Nat) ≤ sizeLine := by decide
      omega
    · have sm : Same H1 (upd H1 p (.tup vs)) := Same.new hp
      exact q W1 _ _ (l1.trans (Le.same sm)) (BI.same b1 sm) (x1.same sm) ⟨p, vs, rfl, SqT.of upd_same, Rps.mo (Le.same sm).toMo _ _ r1⟩
  | .lst a, es, h => by
    refine ⟨fun _ => ?_, fun z => nomatch z⟩
    unfold xeB at h
    split at h <;> try (exact absurd h Bool.false_ne_true)
    simp only [Bool.and_eq_true, decide_eq_true_eq] at h
    obtain ⟨⟨hl, ra⟩, ha⟩ := h
    rename_i es _
    have pa := (xe_ok g hz hf a _ ha).2 ra
    refine ⟨_, rfl, (pe_lst pa).evi fun σ H Q h => ?_⟩
    obtain ⟨W, σd, z, xn, d, b, h0, hxr, hal, he, q⟩ := h
    obtain ⟨ds, e1, rfl⟩ := Option.map_eq_some_iff.mp (show (Xe.evs xn.ds a).map EV.D.lst = some d from he)
    refine ⟨W, σd, z, xn, ds, b, h0, hxr, hal, e1, fun W1 H1 vs l1 b1 x1 r1 => ⟨?_, fun p hp => ?_⟩⟩
    · have := evs_len ha ra e1
      rw [r1.len, this]
      have : (20 : Nat) ≤ sizeLine := by decide
      omega
    · have sm : Same H1 (upd H1 p (.lst vs)) := Same.new hp
      have b2 := BI.same b1 sm
      have h0' : M.H0 p = none := b1.le.none_of hp
      have ns : W1.s ≠ some p := fun e => by
        obtain ⟨o, e⟩ := b1.sr.sf e
        rw [hp] at e; cases e
      have nl : p ∉ W1.L := fun hm => by
        obtain ⟨o, e⟩ := b1.sr.ok.ll p hm
        rw [hp] at e; cases e
      have b3 := BI.add b2 upd_same ns nl h0' (OwnA.tracked b1 hp)
      have l2 : Le W1 H1 (W1.add p) (upd H1 p (.lst vs)) := Le.add (Le.same sm) hp
      exact q _ _ _ (l1.trans l2) b3 (x1.same sm) ⟨p, vs, rfl, .inr rfl, upd_same, Rps.mo l2.toMo _ _ r1⟩
/-- what a suite reads: the exception's fields, then the answer goes out -/
def suX (K : PySem.W.Frag) (M : Mx) (xc : List (Str × List Str)) (al : List (List Str)) (i : Nat) (e : Xe) : Sut := fun ea cls dd => fun D σ H => tXe K M xc al i ea cls dd e σ H D.rt
theorem su_ok (g : Gud X M Z G N sc) {e : Xe} {ex : PySem.Expr} {pos : PySem.Pos} (h : xeB N sc i al e [ex] = true) (hr : e.row = false) (hz : Zc cls dd oe) (hf : ∃ vs, oe.data = .fields vs) : PSs (X.suite ea ((ea, oe) :: pn)) [.Return (some ex) pos] (suX X.K M G.xc al i e ea cls dd) := by
  obtain ⟨x, h1, pe⟩ := (xe_ok (pn := pn) (ea := ea) g hz hf e [ex] h).1 hr
  cases h1
  exact (pss_one (ps_ret pe)).evi fun D σ H q => q
end
/-! ### a try as a statement -/
theorem BI.setNone (b : BIm K M W σd z σ H) {i : Nat} {w : Option V} : BIm K M W (σd.set i none) z (σ.set i w) H := by
  refine ⟨by rw [List.length_set, List.length_set]; exact b.len, fun j sd v h1 h2 => ?_, fun j k a ds es h1 h2 h3 h4 => ?_, b.sr, b.le⟩
  · by_cases e : i = j
    · subst e
      by_cases hi : i < σd.length
      · rw [List.getElem?_set_self hi] at h1
        cases h1
        trivial
      · rw [List.getElem?_eq_none (by simpa using hi)] at h1; cases h1
    · rw [List.getElem?_set_ne e] at h1 h2
      exact b.sl j sd v h1 h2
  · have go : ∀ {j : Nat} {ds : List D}, (σd.set i none)[j]? = some (some (.own ds)) → i ≠ j ∧ σd[j]? = some (some (.own ds)) := fun {j ds} h => by
      by_cases e : i = j
      · subst e
        by_cases hi : i < σd.length
        · rw [List.getElem?_set_self hi] at h; cases h
        · rw [List.getElem?_eq_none (by simpa using hi)] at h; cases h
      · rw [List.getElem?_set_ne e] at h
        exact ⟨e, h⟩
    obtain ⟨n1, h1⟩ := go h1
    obtain ⟨n2, h2⟩ := go h2
    rw [List.getElem?_set_ne n1] at h3
    rw [List.getElem?_set_ne n2] at h4
    exact b.ap j k a ds es h1 h2 h3 h4
def alOf (xc : List (Str × List Str)) (tb : List Bool) : List (List Str) := xc.zipIdx.filterMap fun p => if tb.getD p.2 false then some p.1.2 else none
theorem alOf_mem {xc : List (Str × List Str)} {tb : List Bool} {c : Nat} {n : Str} {ns : List Str} (h : xc[c]? = some (n, ns)) (ht : tb.getD c false = true) : ns ∈ alOf xc tb := by
  refine List.mem_filterMap.mpr ⟨((n, ns), c), ?_, ?_⟩
  · refine List.mem_of_getElem? (i := c) ?_
    rw [List.getElem?_zipIdx, h]
    simp
  · show (if tb.getD c false then some ns else none) = some ns
    rw [ht]; rfl
def hdB (N : List Str) (G : Gi) (sc : PySem.Scope) : List Hd → List PySem.ExceptHandler → Bool
  | [], es => es.isEmpty
  | h :: hs, es => (match es with
    | .ExceptHandler (some (.Name y _)) (some n) [.Return (some ex) _] _ :: r => decide (G.xh[h.h]? = some y) && decide (G.xm[h.h]? = some h.tb) && decide (N[h.i]? = some n) && decide (sc.names.lookup n = some .local) && gloB sc y && okN y && !h.e.row && xeB N sc h.i (alOf G.xc h.tb) h.e [ex] && hdB N G sc hs r
    | _ => false)
section
variable {X : Cx} {N : List Str} {sc : PySem.Scope}
theorem hd_named (g : Gud X M Z G N sc) : ∀ (hs : List Hd) (es : List PySem.ExceptHandler), hdB N G sc hs es = true → ∃ l, Named X es l ∧ ∀ (D : Ends) (x : Xn) (σ1 : Sg) (z1 : Sto) (σ' : St) (H' : Hp) (c : PySem.Value) (dd : Option Addr) (W' : Wd), BIm X.K M W' σ1 z1 σ' H' → xrOf G.xc X.K x c dd H' → (∀ h, hit hs x.c = some h → h.i < σ1.length) →
    (match hit hs x.c with
      | some h => (match h.e.ev x.ds with
        | some d => ∀ v W' H', Le M.W0 M.H0 W' H' → SR X.K W' H' z1 → Rp X.K W' H' v d → D.rt v H'
        | none => False)
      | none => M.wx c dd σ' H') → wNamed X.K M.wx D l c dd σ' H'
  | [], es, h => by
    unfold hdB at h
    obtain rfl : es = [] := List.isEmpty_iff.mp h
    exact ⟨[], .nil, fun D x σ1 z1 σ' H' c dd W' b hx _ q => q⟩
  | h :: hs, es, hh => by
    unfold hdB at hh
    split at hh <;> try (exact absurd hh Bool.false_ne_true)
    simp only [Bool.and_eq_true, decide_eq_true_eq, Bool.not_eq_true'] at hh
    obtain ⟨⟨⟨⟨⟨⟨⟨⟨h1, h2⟩, h3⟩, h4⟩, h5⟩, h6⟩, h7⟩, h8⟩, hr⟩ := hh
    rename_i y py n ex pr ph r
    obtain ⟨l, nm, k⟩ := hd_named g hs r hr
    refine ⟨(.ref (He.ga X.K y), h.i, suX X.K M G.xc (alOf G.xc h.tb) h.i h.e) :: l, .cons ⟨g.good.glob h5, (okN_2 h6).1, .inl (g.xh _ _ h1)⟩ (by rw [g.good.hN]; exact h3) (g.good.lc _ h4) (fun ea ob cls d ps hz hf => su_ok g h8 h7 hz hf) nm, fun D x σ1 z1 σ' H' c dd W' b hx hlen q => ?_⟩
    obtain ⟨n', ns, dp, vs, W'', e1, e2, e3, e4, e5, e6, e7⟩ := id hx
    have em := g.xm _ _ _ _ _ _ h1 h2 e1
    refine ⟨h.tb.getD x.c false, by rw [e2]; exact em, fun ht ea hn => ?_, fun hf => ?_⟩
    · have eh : hit (h :: hs) x.c = some h := by
        show (if h.tb.getD x.c false then some h else hit hs x.c) = _
        rw [ht]; rfl
      rw [eh] at q
      cases ed : h.e.ev x.ds with
      | none => simp only [ed] at q
      | some d =>
        simp only [ed] at q
        refine ⟨W', σ1.set h.i none, z1, x, d, b.setNone, ?_, hx, fun n2 ns2 e9 => alOf_mem e9 ht, ed, fun W2 H2 v l2 b2 _ rv => q v W2 H2 b2.le b2.sr rv⟩
        have hi : h.i < σ'.length := by rw [← b.len]; exact hlen h eh
        rw [List.getElem?_set_self hi]
    · have eh : hit (h :: hs) x.c = hit hs x.c := by
        show (if h.tb.getD x.c false then some h else hit hs x.c) = _
        rw [hf]; rfl
      rw [eh] at q
      exact k D x σ1 z1 σ' H' c dd W' b hx (fun h' e' => hlen h' (by rw [eh]; exact e')) q
/-- try: body, except X as n: return .., .. -/
theorem sS_tryx {body : List PySem.Stmt} {h0 : PySem.ExceptHandler} {hds : List PySem.ExceptHandler} {hs : List Hd} {b : Ss} {pos : PySem.Pos} (g : Gud X M Z G N sc) (hst : X.stack = X.env :: X.outer) (hf : X.env.frame = some X.env.locals) (hh : hdB N G sc hs (h0 :: hds) = true)
    (hb : ∀ (W : WX) (ps : List (Addr × PySem.Obj)) (xe : PySem.Value → PySem.Shared → Prop), Takes (X.tr ps xe) W → PassesOwn (PySem.model X.prog X.w) X.A X.env xe → PSs (X.tr ps xe) body (tSs X.K { M with wx := W } Z b)) :
    PS X (.Try body (h0 :: hds) [] [] pos) (tS X.K M Z (.tryx b hs)) := by
  obtain ⟨l, nm, k⟩ := hd_named g hs _ hh
  refine (ps_try_named hst hf (by rw [g.good.hN]; exact g.good.nd) g.tk hb nm).evi fun D σ H h => ?_
  obtain ⟨W, σd, z, bi, p⟩ := h
  refine ⟨W, σd, z, bi, ?_⟩
  unfold evS at p
  cases e : evSs Z b σd z with
  | err => rw [e] at p; exact p.elim
  | exn x z' => rw [e] at p; exact p.elim
  | ok fl z' =>
    rw [e] at p
    cases fl with
    | nx σ1 => exact p
    | rt d => exact p
    | bk σ1 => exact p
    | ct σ1 => exact p
    | xx x σ1 =>
      intro c dd W' σ' H' b' hx
      have hx : M.xr x c dd H' := hx
      rw [g.xr] at hx
      simp only [Res.bind_ok] at p
      cases eh : hit hs x.c with
      | none =>
        rw [eh] at p
        refine k D x σ1 z' σ' H' c dd W' b' hx (fun h' e' => by rw [eh] at e'; cases e') ?_
        rw [eh]
        exact p c dd W' σ' H' b' (by rw [g.xr]; exact hx)
      | some h =>
        rw [eh] at p
        dsimp only at p
        split at p
        · rename_i hlt
          refine k D x σ1 z' σ' H' c dd W' b' hx (fun h' e' => by rw [eh] at e'; cases e'; exact hlt) ?_
          rw [eh]
          dsimp only
          cases ed : h.e.ev x.ds with
          | none => rw [ed] at p; exact p
          | some d => rw [ed] at p; exact p
        · exact p.elim
end
end
end EV

namespace EV
open PySem L2
section
variable {K : PySem.W.Frag} {M : Mx} {Z : Cxt} {W W' : Wd} {σd : Sg} {z : Sto} {σ : St} {H H' : Hp} {G : Gi}
/-! ### isinstance of an own class -/
theorem sE_isiC {X : Cx} {a : PySem.Expr} {x : Str} {p p2 pos : PySem.Pos} {c : Nat} {ca : C} (I : IsAt X M c x) (hb : isBor ca = false) (hs : nostar a = true) (hg : Gl X "isinstance") (hm : X.mg "isinstance" = none) (hgx : Gl X x) (hdb : (x == ("__debug__" : Str)) = false) (ha : PE X a (tE X.K M Z ca)) :
    PE X (.Call (.Name "isinstance" p) [a, .Name x p2] [] pos) (tE X.K M Z (.isiC c ca)) := by
  obtain ⟨C, hC, hmx, cl, h1, h2, h3, h4, h5⟩ := I.ex
  refine (pe_callB call_isi hg hm (by decide +kernel) (pa_cons ha (pa_cons (pe_glob (v := .ref C) hgx hmx rfl hdb) pa_nil) (star_no hs _ _)) (by decide +kernel) (by decide +kernel) (star_no hs _ _) (by rfl)).evi fun σ H Q h => ?_
  obtain ⟨W, σd, z, b, p⟩ := h
  refine ⟨W, σd, z, b, (Post.of_bind p).mono fun d z2 W2 H2 l b2 p2 v r => ?_⟩
  obtain ⟨k, e, q⟩ := Post.lift (Post.of_bind p2) b2
  have r := (Rpx_no hb).mp r
  have fin : ∀ tv, TyX X.K H2 v tv → PySem.W.kitOne X.K tv (.ref C) = some k → rIsi X.K [v, .ref C] H2 Q := fun tv t1 t2 => ⟨v, _, tv, _, k, rfl, .own C, t1, t2, q W2 H2 Le.refl b2 W2 H2 Le.refl b2 _ ((Rpx_no rfl).mpr rfl)⟩
  cases d with
  | non => cases e; cases r; exact fin _ (.base .non) (h5 _ (by simp))
  | bl b => cases e; cases r; exact fin _ (.base (.bl b)) (h5 _ (by simp))
  | int i => cases e; cases r; exact fin _ (.base (.int i)) (h5 _ (by simp))
  | str s => cases e; obtain ⟨rfl, _⟩ := r; exact fin _ (.base (.str _)) (h5 _ (by simp))
  | tup ds => cases e; obtain ⟨a, vs, rfl, q1, _⟩ := r; exact fin _ (sqt_ty q1) (h5 _ (by simp))
  | lst ds => cases e; obtain ⟨a, vs, rfl, f, q1, _⟩ := r; exact fin _ (.base (.lst q1)) (h5 _ (by simp))
  | ktp ks => cases e; obtain ⟨a, rfl, q1, _⟩ := Rp.ktup r; exact fin _ (sqt_ty q1) (h5 _ (by simp))
  | loc n =>
    have e : (match z2.cs[n]? with
      | some (Cell.ins c' _) => if c' = c then some true else none
      | _ => none) = some k := e
    split at e
    · rename_i c' fs hc
      split at e
      · rename_i hcc
        cases e
        subst hcc
        obtain ⟨a, rfl, hL⟩ := r
        obtain ⟨a', ha', C', dx, us, q1, q2, _⟩ := b2.sr.cs.get hc
        rw [hL] at ha'; cases ha'
        rw [b2.le.S, hC] at q1
        cases q1
        refine fin _ (.base (.ins q2 cl h1 h2 h3 h4)) ?_
        unfold PySem.W.kitOne
        rw [if_pos (by simp)]
      · cases e
    · cases e
  | _ => cases e
/-! ### C(k = e) -/
theorem sE_makeK {X : Cx} {x k0 : Str} {p pos kp : PySem.Pos} {e : PySem.Expr} {c f : Nat} {ce : C} (MA : MakeKAt X M Z c f x [k0]) (hg : Gl X x) (hdb : (x == ("__debug__" : Str)) = false) (hb : isBor ce = false) (he : PE X e (tE X.K M Z ce)) : PE X (.Call (.Name x p) [] [⟨some k0, e, kp⟩] pos) (tE X.K M Z (.makeK c f (.cons ce .nil))) := by
  obtain ⟨C, k, adr, fd, ps, hC, hm, hk, F, hr, hbd⟩ := MA.ex
  refine (pe_makeK0 hk F hr hg hm hbd passN (pk_cons he pk_nil) (by rfl) (by rfl) hdb (by rfl)).evi fun σ H Q h => ?_
  obtain ⟨W, σd, z, b, p⟩ := h
  have p := Post.of_bind p
  have p : Post X.K M W σd σ H ((evE Z ce σd z).bind fun d z => (Res.ok ([] : List D) z).bind fun ds z => .ok (d :: ds) z) _ := p
  refine ⟨W, σd, z, b, (Post.of_bind p).mono fun d z1 W1 H1 l1 b1 p1 v r => ⟨rfl, rfl, fun y dx hy hdx ne => ?_⟩⟩
  have p1 := p1 W1 H1 Le.refl b1
  have r := (Rpx_no hb).mp r
  have sm : Same H1 (upd (upd H1 dx (.own y)) y (.ins C dx [])) := fun b u e => by
    rw [upd_ne (ne_of_none e hy), upd_ne (ne_of_none e hdx)]; exact e
  obtain ⟨l2, sr2⟩ := b1.sr.newC (c := .ins c []) sm hy (fun l => ⟨C, dx, [], (by rw [show (W1.addL y).S = W1.S from rfl, b1.le.S]; exact hC), upd_same, trivial⟩) (fun o e xs z => by rw [upd_same] at e; cases e; cases z)
  have b2 := b1.step l2 sr2
  have hlen : z1.cs.length = W1.L.length := b1.sr.cs.len.symm
  have rn : Rp X.K (W1.addL y) (upd (upd H1 dx (.own y)) y (.ins C dx [])) (.ref y) (.loc z1.cs.length) := ⟨y, rfl, by
    show (W1.L ++ [y])[z1.cs.length]? = some y
    rw [hlen]; simp⟩
  have p1 : Post X.K M W1 σd σ H1 (match callE (Z.cl f [.loc z1.cs.length, d]) false [.loc z1.cs.length, d] ⟨z1.st, z1.cs ++ [.ins c []]⟩ with
    | .ok .non z' => Res.ok (D.loc z1.cs.length) z'
    | _ => .err) fun d z' W' H' => ∀ v, Rp X.K W' H' v d → Q v H' := Post.mono p1 fun d z' W' H' l b q v rv => q v ((Rpx_no rfl).mpr rv)
  have b2N : BIm X.K (noW M) (W1.addL y) σd ⟨z1.st, z1.cs ++ [.ins c []]⟩ σ (upd (upd H1 dx (.own y)) y (.ins C dx [])) := b2
  refine call_sp (M := noW M) (cs := .nil) (ds := [.loc z1.cs.length, d]) b2N ((Rpsx_no rfl).mpr ⟨rn, Rp.mo l2.toMo _ _ r, trivial⟩) ?_
  show Post X.K (noW M) _ σd σ _ (callE (Z.cl f [.loc z1.cs.length, d]) false [.loc z1.cs.length, d] ⟨z1.st, z1.cs ++ [.ins c []]⟩) _
  cases e : callE (Z.cl f [.loc z1.cs.length, d]) false [.loc z1.cs.length, d] ⟨z1.st, z1.cs ++ [.ins c []]⟩ with
  | ok d z' =>
    rw [e] at p1
    cases d with
    | non =>
      intro W' H' l b' v rv
      exact ⟨rv, p1 W' H' (l2.trans l) b' (.ref y) (Rp.mo l.toMo _ _ rn)⟩
    | _ => exact p1.elim
  | exn x' z' => rw [e] at p1; exact p1.elim
  | err => rw [e] at p1; exact p1.elim
/-! ### sorted -/
theorem insI_perm (a : Int) : ∀ l : List Int, (insI a l).Perm (a :: l)
  | [] => .refl _
  | b :: r => by
    unfold insI
    split
    · exact .refl _
    · exact ((insI_perm a r).cons b).trans (List.Perm.swap a b r)
theorem srtI_perm : ∀ l : List Int, (srtI l).Perm l
  | [] => .refl _
  | a :: r => (insI_perm a _).trans ((srtI_perm r).cons a)
theorem insI_srt (a : Int) : ∀ {l : List Int}, l.Pairwise (· ≤ ·) → (insI a l).Pairwise (· ≤ ·)
  | [], _ => List.pairwise_singleton _ _
  | b :: r, h => by
    rw [List.pairwise_cons] at h
    unfold insI
    split
    · rename_i hab
      refine List.pairwise_cons.mpr ⟨fun c hc => ?_, List.pairwise_cons.mpr h⟩
      rcases List.mem_cons.mp hc with rfl | hc
      · exact hab
      · exact Int.le_trans hab (h.1 c hc)
    · rename_i hab
      refine List.pairwise_cons.mpr ⟨fun c hc => ?_, insI_srt a h.2⟩
      rcases List.mem_cons.mp ((insI_perm a r).mem_iff.mp hc) with rfl | hc
      · omega
      · exact h.1 c hc
theorem srtI_srt : ∀ l : List Int, (srtI l).Pairwise (· ≤ ·)
  | [] => .nil
  | a :: r => insI_srt a (srtI_srt r)
theorem leP_iff {a b : Int × Int} : leP a b = true ↔ (a.1 < b.1 ∨ (a.1 = b.1 ∧ a.2 ≤ b.2)) := by
  unfold leP
  simp only [Bool.or_eq_true, Bool.and_eq_true, decide_eq_true_eq]
theorem insP_perm (a : Int × Int) : ∀ l, (insP a l).Perm (a :: l)
  | [] => .refl _
  | b :: r => by
    unfold insP
    split
    · exact .refl _
    · exact ((insP_perm a r).cons b).trans (List.Perm.swap a b r)
theorem srtP_perm : ∀ l, (srtP l).Perm l
  | [] => .refl _
  | a :: r => (insP_perm a _).trans ((srtP_perm r).cons a)
theorem insP_srt (a : Int × Int) : ∀ {l : List (Int × Int)}, l.Pairwise (fun x y => leP x y = true) → (insP a l).Pairwise (fun x y => leP x y = true)
  | [], _ => List.pairwise_singleton _ _
  | b :: r, h => by
    rw [List.pairwise_cons] at h
    unfold insP
    split
    · rename_i hab
      refine List.pairwise_cons.mpr ⟨fun c hc => ?_, List.pairwise_cons.mpr h⟩
      rcases List.mem_cons.mp hc with rfl | hc
      · exact hab
      · have := h.1 c hc
        rw [leP_iff] at *
        omega
    · rename_i hab
      refine List.pairwise_cons.mpr ⟨fun c hc => ?_, insP_srt a h.2⟩
      rcases List.mem_cons.mp ((insP_perm a r).mem_iff.mp hc) with rfl | hc
      · rw [leP_iff] at *
        omega
      · exact h.1 c hc
theorem srtP_srt : ∀ l, (srtP l).Pairwise (fun x y => leP x y = true)
  | [] => .nil
  | a :: r => insP_srt a (srtP_srt r)
theorem Rps.of_ints : ∀ {ds : List D} {l : List Int} {vs : List V}, intsOf ds = some l → Rps K W H vs ds → vs = l.map V.int
  | [], l, [], e, _ => by cases e; rfl
  | d :: ds, l, v :: vs, e, r => by
    cases d with
    | int i =>
      obtain ⟨l', e2, rfl⟩ := Option.map_eq_some_iff.mp (show (intsOf ds).map (i :: ·) = some l from e)
      rw [List.map_cons, ← Rps.of_ints e2 r.2, r.1]
    | _ => cases e
  | [], _, _ :: _, _, r => r.elim
  | _ :: _, _, [], _, r => r.elim
theorem CallR.orr {X : Cx} {f : PySem.Value} {r r' : List V → Hp → VK → Prop} (h : CallR X f r) (h' : CallR X f r') : CallR X f (fun x H Q => r x H Q ∨ r' x H Q) := by
  intro pins s σ H xs us Q I rv q
  rcases q with q | q
  · exact h pins s σ H xs us Q I rv q
  · exact h' pins s σ H xs us Q I rv q
/-- the pair of ints at a tuple -/
def pairAt (H : Hp) : V → Int × Int
  | .ref t => (match H t with
    | some (.tup [.int a, .int b]) => (a, b)
    | _ => (0, 0))
  | _ => (0, 0)
theorem pairs_at : ∀ {ds : List D} {l : List (Int × Int)} {vs : List V}, pairsOf ds = some l → Rps K W H vs ds → (∀ x ∈ vs, ∃ t, x = .ref t ∧ H t = some (.tup [.int (pairAt H x).1, .int (pairAt H x).2])) ∧ vs.map (pairAt H) = l
  | [], l, [], e, _ => by cases e; exact ⟨fun x h => (nomatch h), rfl⟩
  | d :: ds, l, v :: vs, e, r => by
    unfold pairsOf at e
    split at e
    · cases ‹d :: ds = []›
    · rename_i a b r' e0
      cases e0
      obtain ⟨l', e2, rfl⟩ := Option.map_eq_some_iff.mp e
      obtain ⟨h1, h2⟩ := pairs_at e2 r.2
      have hk : ∃ t, v = .ref t ∧ H t = some (.tup (([Ky.i a, Ky.i b].map kyK).map kV)) ∧ ∀ k ∈ [Ky.i a, Ky.i b], KyOk k := r.1
      obtain ⟨t, rfl, q, _⟩ := hk
      have q : H t = some (.tup [.int a, .int b]) := q
      have ep : pairAt H (.ref t) = (a, b) := by
        show (match H t with
          | some (.tup [.int a, .int b]) => (a, b)
          | _ => (0, 0)) = _
        rw [q]
      refine ⟨fun x hx => ?_, by rw [List.map_cons, ep, h2]⟩
      rcases List.mem_cons.mp hx with rfl | hx
      · exact ⟨t, rfl, by rw [ep]; exact q⟩
      · exact h1 x hx
    · cases e
  | [], _, _ :: _, _, r => r.elim
  | _ :: _, _, [], _, r => r.elim
theorem pairs_rp : ∀ {vs : List V}, (∀ x ∈ vs, ∃ t, x = .ref t ∧ H t = some (.tup [.int (pairAt H x).1, .int (pairAt H x).2])) → Rps K W H vs ((vs.map (pairAt H)).map fun p => .ktp [.i p.1, .i p.2])
  | [], _ => trivial
  | v :: vs, h => by
    obtain ⟨t, e, q⟩ := h v List.mem_cons_self
    refine ⟨⟨t, e, q, fun k hk => ?_⟩, pairs_rp fun x hx => h x (List.mem_cons_of_mem _ hx)⟩
    rcases List.mem_cons.mp hk with rfl | hk
    · trivial
    · rw [List.mem_singleton.mp hk]; trivial
theorem sN_srt {X : Cx} {a : PySem.Expr} {p pos : PySem.Pos} {ca : C} (hs : nostar a = true) (hg : Gl X "sorted") (hm : X.mg "sorted" = none) (ha : PE X a (tE X.K M Z ca)) : PE X (.Call (.Name "sorted" p) [a] [] pos) (tN X.K M Z (.srt ca)) := by
  refine (pe_callB (CallR.orr cr_sortedI cr_sortedPO) hg hm (by decide +kernel) (pa_cons ha pa_nil (star_no hs _ _)) (by decide +kernel) (by decide +kernel) (star_no hs _ _) (by rfl)).evi fun σ H Q h => ?_
  obtain ⟨W, σd, z, b, p⟩ := h
  refine one b p fun d v z2 W2 H2 lw b2 r p2 => ?_
  obtain ⟨x, e, q⟩ := Post.lift p2 b2
  cases d with
  | lst ds =>
    obtain ⟨a, vs, rfl, f, q1, rr⟩ := r
    have e : (match intsOf ds with
      | some l => some (D.lst ((srtI l).map D.int))
      | none => (pairsOf ds).map fun l => D.lst ((srtP l).map fun p => D.ktp [.i p.1, .i p.2])) = some x := e
    cases e1 : intsOf ds with
    | some l =>
      simp only [e1] at e
      cases e
      have ev := Rps.of_ints e1 rr
      subst ev
      refine .inl ⟨a, l, rfl, SqL.of q1, fun ns' p' hp hsrt hn => ?_⟩
      obtain rfl : ns' = srtI l := List.Perm.eq_of_pairwise (le := (· ≤ ·)) (fun _ _ _ _ h1 h2 => Int.le_antisymm h1 h2) hsrt (srtI_srt l) (hp.trans (srtI_perm l).symm)
      exact new_list (W0 := W) (fun a h => lw.none_of h) b2 (Rps.ints _) q hn
    | none =>
      simp only [e1] at e
      obtain ⟨l, e2, rfl⟩ := Option.map_eq_some_iff.mp e
      obtain ⟨h1, h2⟩ := pairs_at e2 rr
      refine .inr ⟨a, vs, pairAt H2, rfl, SqL.of q1, h1, fun ys p' hsrt hst hn => ?_⟩
      have pm : (ys.map (pairAt H2)).Perm (srtP l) := by
        rw [← h2]
        exact (hst.perm.map _).trans (srtP_perm _).symm
      have sd : (ys.map (pairAt H2)).Pairwise (fun x y => leP x y = true) := by
        rw [List.pairwise_map]
        refine List.Pairwise.imp (fun {x y} h => ?_) hsrt
        have := SrtO.lexB_no.mp h
        rw [leP_iff]
        omega
      have eq : ys.map (pairAt H2) = srtP l := List.Perm.eq_of_pairwise (le := fun x y => leP x y = true) (fun x y _ _ k1 k2 => by
        rw [leP_iff] at k1 k2
        exact Prod.ext (by omega) (by omega)) sd (srtP_srt l) pm
      have rp := pairs_rp (K := X.K) (W := W2) (H := H2) (vs := ys) fun x hx => h1 x (hst.perm.mem_iff.mp hx)
      rw [eq] at rp
      exact new_list (W0 := W) (fun a h => lw.none_of h) b2 rp q hn
  | _ => cases e
end
end EV
namespace L2
open PySem PySem.Spec PyProof.Rows
/-! ### a written dict -/
section
variable {X : Cx} {pins : List (Addr × Obj)} {σ : St} {H : Hp} {s : Shared} {a : Addr} {z : Str} {v : V} {u r : Value} {A : Around} {E : Value → Shared → Prop} {Q : Value → Shared → Prop}
theorem k_get2 (I : Inv X pins σ H s) (kd : KDct X.K X.w a z v) (low : (a == sysModules) = false) (ry : RelV (.str z) u) (h : ∀ w' s', Inv X pins σ H s' → RelV v w' → Q w' s') :
    wpAny (model X.prog X.w) A (call (.builtin "dict.get") [.ref a, u, r]) Q E s := by
  obtain ⟨es, n, u0, hl, hk, e, ru⟩ := kd
  obtain ⟨t, rfl⟩ := ry
  have hm := PySem.W.mapOf_K (prog := X.prog) (w := X.w) I.kIn hl hk
  refine call_meetsIn PySem.F.slot_dict_get hm.typeIs PySem.F.entry_dict_get (PySem.F.args_dict_get_3 _ _ _) (meets_dict_get_default (strKind X.prog X.w) a (strKind_is X.prog X.w z t) low r) ⟨_, hm, ?_⟩
  rw [PySem.W.find_K hl e]
  exact h u0 _ (I.tok _) ru
/-- T.get(e, f), T a written dict at a: the key is there -/
def tKGet (K : PySem.W.Frag) (w : World) (a : Addr) (ty tx : TE) : TE := fun σ H Q => ty σ H fun y H1 => tx σ H1 fun _ H2 => ∃ (z : Str) (v : V), y = .str z ∧ KDct K w a z v ∧ Q v H2
theorem pe_kget {e f : Expr} {apos cpos : Pos} {x : Str} {xp : Pos} {ty tx : TE} (hg : Gl X x) (hmx : X.mg x = some (.ref a)) (hdb : (x == ("__debug__" : Str)) = false) (hd : ∃ dd es n sl, X.K.lookup a = some ⟨.type "dict", dd, .dict es n, sl⟩ ∧ dd = none) (low : (a == sysModules) = false)
    (he : PE X e ty) (hf : PE X f tx) (m : M2 X (.Name x xp) "get" apos e f cpos) : PE X (.Call (.Attribute (.Name x xp) "get" apos) [e, f] [] cpos) (tKGet X.K X.w a ty tx) := by
  refine ⟨fun pins s σ H Q I h => ?_⟩
  refine wpAny_Call_method m.base m.few m.line PySem.F.plainAttrs_dict PySem.F.slot_dict_get PySem.F.type_dict_get (ld_glob I hg hmx ?_ hdb)
  obtain ⟨dd, es, n, sl, hl, rfl⟩ := hd
  have hx := I.kIn _ _ hl
  refine ⟨⟨_, hx, rfl⟩, fun b q => ?_, ?_⟩
  · cases q
    exact ⟨_, hx, rfl⟩
  rw [m.trees]
  refine Calls.callWith_builtin rfl (Calls.evalArgs_plain (Calls.spliced_cons (thn (he.run pins s σ H _ I h) fun iv s2 ⟨y, H2, I2, ry, q2⟩ =>
    Calls.spliced_cons (thn (hf.run pins s2 σ H2 _ I2 q2) fun fv s3 ⟨w, H3, I3, rw', z, v, ey, kd, q3⟩ => Calls.spliced_nil ?_))))
  subst ey
  exact k_get2 I3 kd low ry fun w' s4 I4 r4 => ⟨v, H3, I4, r4, q3⟩
end
end L2

namespace EV
open PySem L2
section
variable {K : PySem.W.Frag} {M : Mx} {Z : Cxt} {W W' : Wd} {σd : Sg} {z : Sto} {σ : St} {H H' : Hp} {G : Gi}
theorem sE_kget {X : Cx} {ek ex : PySem.Expr} {x : Str} {xp apos pos : PySem.Pos} {j : Nat} {kvs : List (List Nat × Int)} {ck cx : C} (DA : DictAt X x kvs) (hg : Gl X x) (hdb : (x == ("__debug__" : Str)) = false) (hl : (apos.endLine == pos.line) = true) (h1 : nostar ek = true) (h2 : nostar ex = true)
    (hbk : isBor ck = false) (hk : PE X ek (tE X.K M Z ck)) (hx : PE X ex (tE X.K M Z cx)) : PE X (.Call (.Attribute (.Name x xp) "get" apos) [ek, ex] [] pos) (tE X.K M Z (.kget j kvs ck cx)) := by
  obtain ⟨a, hm, hd, low, vals⟩ := DA.ex
  have st : starEach [ek, ex] X.env = [(false, eval ek X.env), (false, eval ex X.env)] := by rw [star_no h1, star_no h2]; rfl
  refine (pe_kget hg hm hdb hd low hk hx ⟨rfl, by rw [st]; rfl, hl, by rw [st]; rfl⟩).evi fun σ H Q h => ?_
  obtain ⟨W, σd, z, b, p⟩ := h
  refine ⟨W, σd, z, b, (Post.of_bind p).mono fun y z1 W1 H1 l1 b1 p1 v r => ⟨W1, σd, z1, b1, (Post.of_bind p1).mono fun w z2 W2 H2 l2 b2 p2 u ru => ?_⟩⟩
  cases y with
  | str s =>
    obtain ⟨rfl, _⟩ := (Rpx_no hbk).mp r
    obtain ⟨d, e, q⟩ := Post.lift (show Post X.K M W2 σd σ H2 (lift ((kvs.lookup s).map D.int) z2) _ from p2) b2
    obtain ⟨i, e9, rfl⟩ := Option.map_eq_some_iff.mp e
    exact ⟨_, .int i, rfl, vals s i e9, q W2 H2 Le.refl b2 _ ((Rpx_no rfl).mpr rfl)⟩
  | _ => exact p2.elim
/-! ### lists in cells: isinstance, a slice, append -/
theorem sE_isiL {X : Cx} {a : PySem.Expr} {x : Str} {p p2 pos : PySem.Pos} {t : Ty} {ca : C} (hb : isBor ca = false) (hs : nostar a = true) (hg : Gl X "isinstance") (hm : X.mg "isinstance" = none) (hgx : Gl X x) (hmx : X.mg x = none) (hx : x = Str.ofString (tyName t)) (ha : PE X a (tE X.K M Z ca)) :
    PE X (.Call (.Name "isinstance" p) [a, .Name x p2] [] pos) (tE X.K M Z (.isiL t ca)) := by
  subst hx
  have hbn : PE X (.Name (Str.ofString (tyName t)) p2) (tC (.ty (tyName t))) := by
    refine pe_bltn (u := .type (tyName t)) hgx hmx (by cases t <;> decide +kernel) rfl (by cases t <;> decide +kernel) (by cases t <;> decide +kernel)
  refine (pe_callB call_isi hg hm (by decide +kernel) (pa_cons ha (pa_cons hbn pa_nil) (star_no hs _ _)) (by decide +kernel) (by decide +kernel) (star_no hs _ _) (by rfl)).evi fun σ H Q h => ?_
  obtain ⟨W, σd, z, b, p⟩ := h
  refine ⟨W, σd, z, b, (Post.of_bind p).mono fun d z2 W2 H2 l b2 p2 v r => ?_⟩
  obtain ⟨k, e, q⟩ := Post.lift (Post.of_bind p2) b2
  have r := (Rpx_no hb).mp r
  have fin : Q (.bl k) H2 := q W2 H2 Le.refl b2 W2 H2 Le.refl b2 _ ((Rpx_no rfl).mpr rfl)
  rcases derC_or b2 r with h | ⟨m, a, us, ds, rfl, h, rfl, _, _, q1, r2⟩
  · rw [h] at e
    obtain ⟨tv, h1, h2⟩ := isi_ok (σd := σd) (σ := σ) e (Rp.toO r)
    exact ⟨v, _, tv, _, k, rfl, .ty _, h1, h2, fin⟩
  · rw [h] at e
    cases e
    exact ⟨_, _, _, _, _, rfl, .ty _, .base (.lst q1), kit_ty (by cases t <;> decide +kernel), fin⟩
theorem sN_slcHL {X : Cx} {a hi : PySem.Expr} {p1 pos : PySem.Pos} {ca ch : C} (hb : isBor ca = false) (ha : PE X a (tE X.K M Z ca)) (hh : PE X hi (tE X.K M Z ch)) : PE X (.Subscript a (.Slice none (some hi) none p1) pos) (tN X.K M Z (.slcHL ca ch)) := by
  refine (pe_slice sl_any ha po_none (po_some hh)).evi fun σ H Q h => ?_
  obtain ⟨W, σd, z, b, p⟩ := h
  refine ⟨W, σd, z, b, (Post.of_bind p).mono fun d1 z2 W2 H2 l b2 p2 v1 r1 => ?_⟩
  refine one b2 p2 fun d2 v2 z3 W3 H3 l3 b3 r2 p3 => ?_
  obtain ⟨i, e, q⟩ := Post.lift (Post.of_bind p3) b3
  have r1 := Rp.mo l3.toMo _ _ ((Rpx_no hb).mp r1)
  cases d2 <;> cases e
  cases r2
  have p4 := q W3 H3 Le.refl b3
  rcases derC_or b3 r1 with h | ⟨m, a, us, ds, rfl, h, rfl, _, _, q1, r2⟩
  · rw [h] at p4
    cases d1 with
    | lst ds =>
      obtain ⟨d, e5, q5⟩ := Post.lift p4 b3
      exact ⟨_, rfl, slc_ok (fun a h => (l.trans l3).none_of h) b3 (Rp.toO r1) e5 q5⟩
    | _ => exact p4.elim
  · rw [h] at p4
    obtain ⟨d, e5, q5⟩ := Post.lift p4 b3
    cases e5
    exact ⟨_, rfl, .inl (.inl ⟨a, us, rfl, SqL.of q1, fun p hp => new_list (W0 := W) (fun a h => (l.trans l3).none_of h) b3 (Rps.cut r2 _ _) q5 hp⟩)⟩
theorem sS_appC {X : Cx} {eo e : PySem.Expr} {apos cpos spos : PySem.Pos} {co c : C} (hn : notsup eo = true) (hbo : isBor co = false) (hb : isBor c = false) (hs : nostar e = true) (hline : (apos.endLine == cpos.line) = true) (ho : PE X eo (tE X.K M Z co)) (he : PE X e (tE X.K M Z c)) :
    PS X (.Expr (.Call (.Attribute eo "append" apos) [e] [] cpos) spos) (tS X.K M Z (.appC co c)) := by
  refine (ps_expr (pe_bm PySem.F.plainAttrs_list PySem.F.slot_list_append PySem.F.type_list_append mt_append ho (pa_cons he pa_nil (star_no hs _ _)) (base_ok hn) (by rw [star_no hs]; rfl) hline (star_no hs _ _) rfl)).evi fun D σ H h => ?_
  obtain ⟨W, σd, z, b, p⟩ := h
  unfold evS at p
  refine tS_of b p fun u z1 W1 H1 vu l1 b1 r1 p1 => ?_
  have r1 := (Rpx_no hbo).mp r1
  cases u with
  | loc n =>
    dsimp only at p1
    obtain ⟨a, rfl, hL⟩ := r1
    split at p1
    · rename_i ds0 hc
      obtain ⟨a', ha', us, q1, rr⟩ := b1.sr.cs.get hc
      rw [hL] at ha'; cases ha'
      refine ⟨.inl ⟨rfl, _, SqL.of q1⟩, tS_of b1 p1 fun w z2 W2 H2 vw l2 b2 r2 p2 => ?_⟩
      have hL2 := l2.toMo.lg hL
      split at p2
      · rename_i ds hc2
        split at p2
        · rename_i hlt
          obtain ⟨a', ha', vs, q2, rr2⟩ := b2.sr.cs.get hc2
          rw [hL2] at ha'; cases ha'
          obtain ⟨mo, b3⟩ := b2.wrC (o := .lst (vs ++ [vw])) (c := .lst (ds ++ [w])) hL2 (fun xs z => by rw [q2] at z; cases z) (fun _ _ z => by rw [q2] at z; cases z) fun m =>
            ⟨_, upd_same, Rps.app (Rps.mo m _ _ rr2) ⟨Rp.mo m _ _ ((Rpx_no hb).mp r2), trivial⟩⟩
          exact ⟨a, _, _, rfl, rfl, q2, by rw [rr2.len]; exact hlt, p2 W2 σ _ mo b3⟩
        · exact p2.elim
      · exact p2.elim
    · exact p1.elim
  | _ => exact p1.elim
end
end EV

namespace EV
open PySem L2
/-! ### tests with is -/
section
variable {K : PySem.W.Frag} {M : Mx} {Z : Cxt} {W : Wd} {σd : Sg} {z : Sto} {σ : St} {H : Hp}
theorem tB_tE {c : C} {R : Bool → Hp → Prop} (hb : ∀ (σd : Sg) (z : Sto) d z', evE Z c σd z = .ok d z' → ∃ k, d = .bl k) (h1 : isBor c = false) (h : tB K M Z c σ H R) : tE K M Z c σ H fun x H1 => ∃ k, x = .bl k ∧ R k H1 := by
  obtain ⟨W, σd, z, b, p⟩ := h
  refine ⟨W, σd, z, b, ?_⟩
  have p' := Post.of_bind p
  cases e : evE Z c σd z with
  | exn x z' => rw [e] at p'; exact p'
  | err => rw [e] at p'; exact p'
  | ok d z' =>
    rw [e] at p'
    obtain ⟨k, rfl⟩ := hb _ _ _ _ e
    intro W' H' l b' v r
    have r := (Rpx_no h1).mp r
    cases r
    exact ⟨k, rfl, p' W' H' l b' W' H' Le.refl b'⟩
theorem isN_bl {n : Bool} {a : C} {d : D} {z' : Sto} (h : evE Z (.isN n a) σd z = .ok d z') : ∃ k, d = .bl k := by
  unfold evE at h
  cases e : evE Z a σd z with
  | ok x z1 =>
    rw [e, Res.bind_ok] at h
    cases x <;> (cases h; exact ⟨_, rfl⟩)
  | exn _ _ => rw [e] at h; cases h
  | err => rw [e] at h; cases h
theorem isB_bl {n k : Bool} {a : C} {d : D} {z' : Sto} (h : evE Z (.isB n k a) σd z = .ok d z') : ∃ k, d = .bl k := by
  unfold evE at h
  cases e : evE Z a σd z with
  | ok x z1 =>
    rw [e, Res.bind_ok] at h
    cases x <;> first | (cases h; done) | (cases h; exact ⟨_, rfl⟩)
  | exn _ _ => rw [e] at h; cases h
  | err => rw [e] at h; cases h
theorem sT_isN {X : Cx} {a : PySem.Expr} {pos p2 : PySem.Pos} {j : Nat} {ca : C} (n : Bool) (ha : PE X a (tE X.K M Z ca)) : PT X (.Compare a [if n then .IsNot else .Is] [.Constant .none j p2] pos) (tB X.K M Z (.isN n ca)) := by
  have go : ∀ (σ : St) (H : Hp) (Q : VK), tE X.K M Z (.isN n ca) σ H Q → tE X.K M Z ca σ H fun x H1 => Q (.bl (if n then !decide (x = .non) else decide (x = .non))) H1 := fun σ H Q h => by
    obtain ⟨W, σd, z, b, p⟩ := h
    refine one b p fun d v z2 W2 H2 l b2 r p2 => ?_
    rw [isnon_of r]
    cases d <;> cases n <;> exact p2 W2 H2 Le.refl b2 _ rfl
  cases n with
  | false =>
      refine (pt_cmpR op_isN ha pe_non (nomark _)).evi fun σ H Q h => ?_
      obtain ⟨W, σd, z, b, p⟩ := go σ H _ (tB_tE (fun _ _ _ _ => isN_bl) rfl h)
      exact ⟨W, σd, z, b, p.mono fun d z1 W1 H1 l1 b1 q v r => ⟨rfl, q v r⟩⟩
  | true =>
      refine (pt_cmpR op_notN ha pe_non (nomark _)).evi fun σ H Q h => ?_
      obtain ⟨W, σd, z, b, p⟩ := go σ H _ (tB_tE (fun _ _ _ _ => isN_bl) rfl h)
      exact ⟨W, σd, z, b, p.mono fun d z1 W1 H1 l1 b1 q v r => ⟨rfl, q v r⟩⟩
theorem sT_isB {X : Cx} {a : PySem.Expr} {pos p2 : PySem.Pos} {j : Nat} {ca : C} (n k : Bool) (ha : PE X a (tE X.K M Z ca)) : PT X (.Compare a [if n then .IsNot else .Is] [.Constant (.bool k) j p2] pos) (tB X.K M Z (.isB n k ca)) := by
  have go : ∀ (σ : St) (H : Hp) (Q : VK), tE X.K M Z (.isB n k ca) σ H Q → tE X.K M Z ca σ H fun x H1 => ∃ c, x = .bl c ∧ Q (.bl (if n then c != k else c == k)) H1 := fun σ H Q h => by
    obtain ⟨W, σd, z, b, p⟩ := h
    refine one b p fun d v z2 W2 H2 l b2 r p2 => ?_
    split at p2
    · cases r
      exact ⟨_, rfl, p2 W2 H2 Le.refl b2 _ rfl⟩
    · exact p2.elim
  cases n with
  | false =>
      refine (pt_cmpR op_isBl ha pe_bl (nomark _)).evi fun σ H Q h => ?_
      obtain ⟨W, σd, z, b, p⟩ := go σ H _ (tB_tE (fun _ _ _ _ => isB_bl) rfl h)
      refine ⟨W, σd, z, b, p.mono fun d z1 W1 H1 l1 b1 q v r => ?_⟩
      obtain ⟨c, rfl, q⟩ := q v r
      refine ⟨c, k, rfl, rfl, ?_⟩
      rw [show decide (c = k) = (if false then c != k else c == k) by cases c <;> cases k <;> rfl]
      exact q
  | true =>
      refine (pt_cmpR op_notBl ha pe_bl (nomark _)).evi fun σ H Q h => ?_
      obtain ⟨W, σd, z, b, p⟩ := go σ H _ (tB_tE (fun _ _ _ _ => isB_bl) rfl h)
      refine ⟨W, σd, z, b, p.mono fun d z1 W1 H1 l1 b1 q v r => ?_⟩
      obtain ⟨c, rfl, q⟩ := q v r
      refine ⟨c, k, rfl, rfl, ?_⟩
      rw [show (!decide (c = k)) = (if true then c != k else c == k) by cases c <;> cases k <;> rfl]
      exact q
end
/-! ### the check: a code is the code of an expression -/
def md (m : Nat) (e : PySem.Expr) : Bool := m == 0 || (m == 1 && plainT e)
def cpB : Cop → PySem.CmpOp → Bool
  | .eq, .Eq | .ne, .NotEq | .lt, .Lt | .le, .LtE | .gt, .Gt | .ge, .GtE | .inn, .In | .nin, .NotIn => true
  | _, _ => false
theorem cpB_ok {o : Cop} {p : PySem.CmpOp} (h : cpB o p = true) : p = cpOf o := by
  cases o <;> cases p <;> first | rfl | exact nomatch h
def bpB : Bop → PySem.Operator → Bool
  | .add, .Add | .sub, .Sub | .mul, .Mult | .fdiv, .FloorDiv | .mod, .Mod | .pow, .Pow => true
  | _, _ => false
theorem bpB_ok {o : Bop} {p : PySem.Operator} (h : bpB o p = true) : p = opOf o := by
  cases o <;> cases p <;> first | rfl | exact nomatch h
def isB : Bool → PySem.CmpOp → Bool
  | true, .IsNot => true
  | false, .Is => true
  | _, _ => false
theorem isB_ok {n : Bool} {p : PySem.CmpOp} (h : isB n p = true) : p = if n then .IsNot else .Is := by
  cases n <;> cases p <;> first | rfl | exact nomatch h
def inB : Bool → PySem.CmpOp → Bool
  | true, .NotIn => true
  | false, .In => true
  | _, _ => false
theorem inB_ok {n : Bool} {p : PySem.CmpOp} (h : inB n p = true) : p = if n then .NotIn else .In := by
  cases n <;> cases p <;> first | rfl | exact nomatch h
def nwC : C → Bool
  | .srt _ | .slcHL _ _ | .bin _ _ _ | .slc _ _ _ | .slcL _ _ | .slcH _ _ | .lst _ | .bi _ _ | .comp _ _ _ | .compI _ _ _ _ | .comp2 _ _ _ _ _ => true
  | _ => false
def ownOf (N : List Str) (l : List Nat) : List (Str × Nat) := l.filterMap fun i => (N[i]?).map fun x => (x, i)
def strB (s : List Nat) : Bool := decide (s.length ≤ lim) && s.all fun c => decide (c < 0x110000)
section
variable (N : List Str) (G : Gi)
mutual
def chk : Nat → PySem.Scope → C → PySem.Expr → Bool
  | m, sc, .var i, e => (match e with
    | .Name x _ => md m e && decide (N[i]? = some x) && visB sc x && okN x
    | _ => false)
  | m, sc, .bor i, e => (match e with
    | .Name x _ => m == 0 && decide (N[i]? = some x) && visB sc x && okN x
    | _ => false)
  | m, sc, .non, e => (match e with
    | .Constant .none _ _ => md m e
    | _ => false)
  | m, sc, .bl b, e => (match e with
    | .Constant (.bool k) _ _ => md m e && b == k
    | _ => false)
  | m, sc, .int i, e => (match e with
    | .Constant (.int k) _ _ => md m e && decide (i = k)
    | _ => false)
  | m, sc, .str s, e => (match e with
    | .Constant (.str x) _ _ => md m e && decide (x.cps.toList = s) && strB s
    | _ => false)
  | m, sc, .glo g, e => (match e with
    | .Name x _ => md m e && decide (G.cn[g]? = some x) && gloB sc x && okN x
    | _ => false)
  | m, sc, .tup es, e => (match e with
    | .Tuple ees _ _ => (md m e || m == 4) && !hasBor es && decide (lenC es ≤ lim) && chks sc es ees
    | _ => false)
  | m, sc, .ktt es, e => (match e with
    | .Tuple ees _ _ => md m e && !hasBor es && decide (lenC es ≤ lim) && chks sc es ees
    | _ => false)
  | m, sc, .ktv c, e => m == 4 && !isBor c && chk 0 sc c e
  | m, sc, .lst es, e => (match e with
    | .List ees _ => md m e && !hasBor es && decide (lenC es ≤ lim) && chks sc es ees
    | _ => false)
  | m, sc, .bin o a b, e => (match e with
    | .BinOp ea p eb _ => md m e && bpB o p && chk 0 sc a ea && chk 0 sc b eb
    | _ => false)
  | m, sc, .neg a, e => (match e with
    | .UnaryOp .USub ea _ => md m e && chk 0 sc a ea
    | _ => false)
  | m, sc, .cmp o a b, e => (match e with
    | .Compare ea [p] [eb] _ => decide (m ≤ 1) && cpB o p && noset eb && chk 0 sc a ea && chk 0 sc b eb
    | _ => false)
  | m, sc, .chn o o2 a b c, e => (match e with
    | .Compare ea [p, p2] [eb, ec] _ => decide (m ≤ 1) && cpB o p && cpB o2 p2 && !isBor b && noset eb && noset ec && chk 0 sc a ea && chk 0 sc b eb && chk 0 sc c ec
    | _ => false)
  | m, sc, .isN n a, e => (match e with
    | .Compare ea [p] [.Constant .none _ _] _ => decide (m ≤ 1) && isB n p && chk 0 sc a ea
    | _ => false)
  | m, sc, .isB n k a, e => (match e with
    | .Compare ea [p] [.Constant (.bool k2) _ _] _ => decide (m ≤ 1) && isB n p && k == k2 && chk 0 sc a ea
    | _ => false)
  | m, sc, .and a b, e => (match e with
    | .BoolOp .And (ea :: eb :: rest) pos => if m == 0 then !isBor a && !isBor b && chk 0 sc a ea && chk 0 sc b (.BoolOp .And (eb :: rest) pos) else decide (m ≤ 2) && chk 1 sc a ea && chk 2 sc b (.BoolOp .And (eb :: rest) pos)
    | _ => false)
  | m, sc, .or a b, e => (match e with
    | .BoolOp .Or (ea :: eb :: rest) pos => if m == 0 then !isBor a && !isBor b && chk 0 sc a ea && chk 0 sc b (.BoolOp .Or (eb :: rest) pos) else decide (m ≤ 2) && chk 1 sc a ea && chk 2 sc b (.BoolOp .Or (eb :: rest) pos)
    | _ => false)
  | m, sc, .one a, e => (match e with
    | .BoolOp _ [ea] pos => if m == 0 then !isBor a && chk 0 sc a ea else decide (m ≤ 2) && chk 1 sc a ea
    | _ => false)
  | m, sc, .not a, e => (match e with
    | .UnaryOp .Not ea _ => decide (m ≤ 1) && chk m sc a ea
    | _ => false)
  | m, sc, .ite c a b, e => (match e with
    | .IfExp ec ea eb _ => m == 0 && !isBor a && !isBor b && chk 1 sc c ec && chk 0 sc a ea && chk 0 sc b eb
    | _ => false)
  | m, sc, .idx a i, e => (match e with
    | .Subscript ea ei _ => md m e && noslice ei && chk 0 sc a ea && chk 0 sc i ei
    | _ => false)
  | m, sc, .slc a l h, e => (match e with
    | .Subscript ea (.Slice (some el) (some eh) none _) _ => md m e && chk 0 sc a ea && chk 0 sc l el && chk 0 sc h eh
    | _ => false)
  | m, sc, .slcL a l, e => (match e with
    | .Subscript ea (.Slice (some el) none none _) _ => md m e && chk 0 sc a ea && chk 0 sc l el
    | _ => false)
  | m, sc, .slcH a l, e => (match e with
    | .Subscript ea (.Slice none (some el) none _) _ => md m e && chk 0 sc a ea && chk 0 sc l el
    | _ => false)
  | m, sc, .call f es, e => (match e with
    | .Call (.Name x _) ees [] _ => md m e && decide (G.nm[f]? = some (some x)) && gloB sc x && okN x && chks sc es ees
    | _ => false)
  | m, sc, .bi b es, e => (match e with
    | .Call (.Name x _) (ea :: ees) [] _ => md m e && decide (x = Str.ofString (biName b)) && gloB sc x && (match b with
      | .gcd => G.gc
      | _ => G.mn.contains x) && chks sc es (ea :: ees)
    | _ => false)
  | m, sc, .isi t a, e => (match e with
    | .Call (.Name x _) [ea, .Name y _] [] _ => md m e && decide (x = ("isinstance" : Str)) && decide (y = Str.ofString (tyName t)) && nostar ea && gloB sc x && gloB sc y && G.mn.contains x && G.mn.contains y && chk 0 sc a ea
    | _ => false)
  | m, sc, .strm a, e => (match e with
    | .List [ea, .Constant (.int 0) _ _, .Constant (.int 0) _ _] _ => md m e && nostar ea && !isBor a && chk 0 sc a ea
    | _ => false)
  | m, sc, .comp t it el, e => (match e with
    | .ListComp elt [⟨tg, iter, [], 0⟩] scope _ => (md m e || m == 3) && blkC N sc scope (ownOf N t.slots) && decide ((ownOf N t.slots).map (·.2) = t.slots) && noset iter && !isBor el && chkT N scope t tg && chki sc it tg iter && chk 0 scope el elt
    | _ => false)
  | m, sc, .compI t it c el, e => (match e with
    | .ListComp elt [⟨tg, iter, [ec], 0⟩] scope _ => (md m e || m == 3) && blkC N sc scope (ownOf N t.slots) && decide ((ownOf N t.slots).map (·.2) = t.slots) && noset iter && !isBor el && chkT N scope t tg && chki sc it tg iter && chk 1 scope c ec && chk 0 scope el elt
    | _ => false)
  | m, sc, .comp2 t it t2 it2 el, e => (match e with
    | .ListComp elt [⟨tg, iter, [], 0⟩, ⟨tg2, iter2, [], 0⟩] scope _ => (md m e || m == 3) && blkC N sc scope (ownOf N (t.slots ++ t2.slots)) && decide ((ownOf N (t.slots ++ t2.slots)).map (·.2) = t.slots ++ t2.slots) && noset iter && noset iter2 && !isBor el && chkT N scope t tg && chkT N scope t2 tg2 && chki sc it tg iter && chki scope it2 tg2 iter2 && chk 0 scope el elt
    | _ => false)
  | m, sc, .attr a c k, e => (match e with
    | .Attribute ea f _ => md m e && notsup ea && decide (G.an[k]? = some f) && G.at_.contains (c, k) && chk 0 sc a ea
    | _ => false)
  | m, sc, .meth c f a es, e => (match e with
    | .Call (.Attribute eo mm apos) ees [] pos => md m e && notsup eo && (apos.endLine == pos.line) && decide (ees.length < 20) && !hasBor es && !isBor a && G.ms.contains (c, mm, f) && chk 0 sc a eo && chks sc es ees
    | _ => false)
  | m, sc, .make c f es, e => (match e with
    | .Call (.Name x _) ees [] _ => md m e && decide (G.cl[c]? = some x) && gloB sc x && okN x && G.mks.contains (c, f) && !hasBor es && chks sc es ees
    | _ => false)
  | m, sc, .newD t, e => (match e with
    | .Dict [] [] _ => md m e
    | _ => false)
  | m, sc, .dget t d k, e => (match e with
    | .Subscript ed ek _ => md m e && noslice ek && chk 0 sc d ed && (t || !isBor k) && chk (if t then 4 else 0) sc k ek
    | _ => false)
  | m, sc, .dgetD t d k x, e => (match e with
    | .Call (.Attribute ed a apos) [ek, ex] [] pos => md m e && decide (a = ("get" : Str)) && notsup ed && (apos.endLine == pos.line) && nostar ek && nostar ex && !isBor x && chk 0 sc d ed && (t || !isBor k) && chk (if t then 4 else 0) sc k ek && chk 0 sc x ex
    | _ => false)
  | m, sc, .sjoin a b, e => (match e with
    | .Call (.Attribute ea at_ apos) [eb] [] pos => md m e && decide (at_ = ("join" : Str)) && notsup ea && (apos.endLine == pos.line) && nostar eb && chk 0 sc a ea && chk 0 sc b eb
    | _ => false)
  | m, sc, .newL a, e => (match e with
    | .Call (.Name x _) [ea] [] _ => md m e && decide (x = ("list" : Str)) && gloB sc x && G.mn.contains x && nostar ea && !isBor a && chk 0 sc a ea
    | _ => false)
  | m, sc, .lenL a, e => (match e with
    | .Call (.Name x _) [ea] [] _ => md m e && decide (x = ("len" : Str)) && gloB sc x && G.mn.contains x && nostar ea && !isBor a && chk 0 sc a ea
    | _ => false)
  | m, sc, .isiL t a, e => (match e with
    | .Call (.Name x _) [ea, .Name y _] [] _ => md m e && decide (x = ("isinstance" : Str)) && decide (y = Str.ofString (tyName t)) && nostar ea && gloB sc x && gloB sc y && G.mn.contains x && G.mn.contains y && !isBor a && chk 0 sc a ea
    | _ => false)
  | m, sc, .slcHL a l, e => (match e with
    | .Subscript ea (.Slice none (some el) none _) _ => md m e && !isBor a && chk 0 sc a ea && chk 0 sc l el
    | _ => false)
  | m, sc, .isiC c a, e => (match e with
    | .Call (.Name x _) [ea, .Name y _] [] _ => md m e && decide (x = ("isinstance" : Str)) && decide (G.cl[c]? = some y) && G.is_.contains c && nostar ea && gloB sc x && gloB sc y && okN y && G.mn.contains x && !isBor a && chk 0 sc a ea
    | _ => false)
  | m, sc, .makeK c f es, e => (match e with
    | .Call (.Name x _) [] [⟨some k0, ev, _⟩] _ => (match es with
      | .cons ce .nil => md m e && decide (G.cl[c]? = some x) && gloB sc x && okN x && G.kw.contains (c, f, [k0]) && !isBor ce && chk 0 sc ce ev
      | _ => false)
    | _ => false)
  | m, sc, .kget j kvs k x, e => (match e with
    | .Call (.Attribute (.Name n _) a apos) [ek, ex] [] pos => md m e && decide (a = ("get" : Str)) && decide (G.dn[j]? = some (n, kvs)) && gloB sc n && okN n && (apos.endLine == pos.line) && nostar ek && nostar ex && !isBor k && chk 0 sc k ek && chk 0 sc x ex
    | _ => false)
  | m, sc, .srt a, e => (match e with
    | .Call (.Name x _) [ea] [] _ => md m e && decide (x = ("sorted" : Str)) && gloB sc x && G.mn.contains x && nostar ea && chk 0 sc a ea
    | _ => false)
  | _, _, .scnt _ _, _ => false
  | _, _, .srfd _ _, _ => false
  | m, sc, .din t n k d, e => (match e with
    | .Compare ek [p] [ed] _ => decide (m ≤ 1) && inB n p && noset ed && chk 0 sc d ed && (t || !isBor k) && chk (if t then 4 else 0) sc k ek
    | _ => false)
def chks : PySem.Scope → Cs → List PySem.Expr → Bool
  | sc, .nil, [] => true
  | sc, .cons e es, ee :: ees => nostar ee && chk 0 sc e ee && chks sc es ees
  | _, _, _ => false
def chki : PySem.Scope → I → PySem.Expr → PySem.Expr → Bool
  | sc, .seq a, tg, e => !isBor a && chk 0 sc a e
  | sc, .rng1 a, tg, e => (match e with
    | .Call (.Name x _) [ea] [] _ => decide (x = ("range" : Str)) && gloB sc x && G.mn.contains x && nostar ea && chk 0 sc a ea
    | _ => false)
  | sc, .rng2 a b, tg, e => (match e with
    | .Call (.Name x _) [ea, eb] [] _ => decide (x = ("range" : Str)) && gloB sc x && G.mn.contains x && nostar ea && nostar eb && chk 0 sc a ea && chk 0 sc b eb
    | _ => false)
  | sc, .enum a, tg, e => (match e, tg with
    | .Call (.Name x _) [ea] [] _, .Tuple _ _ _ => decide (x = ("enumerate" : Str)) && gloB sc x && G.mn.contains x && !isBor a && nostar ea && chk 0 sc a ea
    | _, _ => false)
  | sc, .zip a b, tg, e => (match e, tg with
    | .Call (.Name x _) [ea, eb] [] _, .Tuple _ _ _ => decide (x = ("zip" : Str)) && gloB sc x && G.mn.contains x && !isBor a && !isBor b && nostar ea && nostar eb && chk 0 sc a ea && chk 0 sc b eb
    | _, _ => false)
end
end
def swOk (y : Str) (py : PySem.Pos) : PySem.Expr → Bool
  | .ListComp _ _ scope pos => (py.line == pos.line) && !(scope.names.any fun (n, k) => n == y && (k == .local || k == .cell))
  | _ => false
def Snd (Z : Cxt) (N : List Str) (m : Nat) (X : Cx) (M : Mx) (sc : PySem.Scope) (c : C) (e : PySem.Expr) : Prop := match m with
  | 0 => PE X e (tE X.K M Z c) ∧ (nwC c = true → PE X e (tN X.K M Z c))
  | 1 => PT X e (tB X.K M Z c)
  | 2 => PW X e (tB X.K M Z c)
  | 4 => PE X e (tKey X.K M Z true c)
  | _ => ∀ i y py spos, N[i]? = some y → sc.names.lookup y = some .local → X.env.scope.kind = .function → swOk y py e = true → PS X (.Assign [.Name y py] e spos) (tAsg (tN X.K M Z c) (gName i))
end EV

namespace EV
open PySem L2
section
variable {Z : Cxt} {N : List Str} {G : Gi} {X : Cx} {M : Mx} {sc : PySem.Scope} {e : PySem.Expr} {c : C} {m : Nat}
theorem md_cases (h : md m e = true) : m = 0 ∨ (m = 1 ∧ plainT e = true) := by
  unfold md at h
  simp only [Bool.or_eq_true, beq_iff_eq, Bool.and_eq_true] at h
  exact h
theorem snd_leaf (hm : md m e = true) (hn : nwC c = false) (h : PE X e (tE X.K M Z c)) : Snd Z N m X M sc c e := by
  rcases md_cases hm with rfl | ⟨rfl, hp⟩
  · exact ⟨h, fun z => by rw [hn] at z; cases z⟩
  · exact sT_any hp h
theorem snd_new (hm : md m e = true) (hb : isBor c = false) (h : PE X e (tN X.K M Z c)) : Snd Z N m X M sc c e := by
  rcases md_cases hm with rfl | ⟨rfl, hp⟩
  · exact ⟨sE_tN hb h, fun _ => h⟩
  · exact sT_any hp (sE_tN hb h)
theorem snd_01 (hm : m ≤ 1) (hn : nwC c = false) (h : PE X e (tE X.K M Z c)) (h1 : PT X e (tB X.K M Z c)) : Snd Z N m X M sc c e := by
  match m, hm with
  | 0, _ => exact ⟨h, fun z => by rw [hn] at z; cases z⟩
  | 1, _ => exact h1
theorem snd_12 (hm : m ≤ 2) (h0 : m ≠ 0) (h1 : PW X e (tB X.K M Z c)) : Snd Z N m X M sc c e := by
  match m, hm, h0 with
  | 1, _, _ => exact h1.pt
  | 2, _, _ => exact h1
theorem okN_1 {x : Str} (h : okN x = true) : (x == ("__debug__" : Str)) = false ∧ (x == ("__classdict__" : Str)) = false := by
  unfold okN at h
  simp only [Bool.and_eq_true, Bool.not_eq_true'] at h
  exact h
theorem strB_ok {s : List Nat} (h : strB s = true) : StrOk s := by
  unfold strB at h
  simp only [Bool.and_eq_true, decide_eq_true_eq, List.all_eq_true] at h
  exact h
theorem nostars {es : Cs} : ∀ {ees : List PySem.Expr}, chks N G sc es ees = true → ∀ e ∈ ees, nostar e = true := fun {ees} h => by
  induction ees generalizing es with
  | nil => intro e he; cases he
  | cons a r ih =>
    cases es with
    | nil => simp [chks] at h
    | cons c cs =>
      simp only [chks, Bool.and_eq_true] at h
      intro e he
      rcases List.mem_cons.mp he with rfl | he
      · exact h.1.1
      · exact ih h.2 e he
end

section
variable {Z : Cxt} {N : List Str} {G : Gi}
mutual
theorem chk_ok : ∀ (c : C) (m : Nat) (sc : PySem.Scope) (e : PySem.Expr), chk N G m sc c e = true → ∀ (X : Cx) (M : Mx), Gud X M Z G N sc → Snd Z N m X M sc c e
  | .var i, m, sc, e, h, X, M, g => by
    unfold chk at h; split at h <;> try (exact absurd h Bool.false_ne_true)
    simp only [Bool.and_eq_true, decide_eq_true_eq] at h
    obtain ⟨⟨⟨hm, hi⟩, hv⟩, ho⟩ := h
    exact snd_leaf hm rfl (sE_var (by rw [g.good.hN]; exact hi) (g.good.vis hv) (okN_1 ho).1 (okN_1 ho).2)
  | .bor i, m, sc, e, h, X, M, g => by
    unfold chk at h; split at h <;> try (exact absurd h Bool.false_ne_true)
    simp only [Bool.and_eq_true, decide_eq_true_eq, beq_iff_eq] at h
    obtain ⟨⟨⟨rfl, hi⟩, hv⟩, ho⟩ := h
    exact ⟨sE_bor (by rw [g.good.hN]; exact hi) (g.good.vis hv) (okN_1 ho).1 (okN_1 ho).2, fun z => nomatch z⟩
  | .non, m, sc, e, h, X, M, g => by
    unfold chk at h; split at h <;> try (exact absurd h Bool.false_ne_true)
    exact snd_leaf h rfl sE_non
  | .bl b, m, sc, e, h, X, M, g => by
    unfold chk at h; split at h <;> try (exact absurd h Bool.false_ne_true)
    simp only [Bool.and_eq_true, beq_iff_eq] at h
    obtain ⟨hm, rfl⟩ := h
    exact snd_leaf hm rfl sE_bl
  | .int i, m, sc, e, h, X, M, g => by
    unfold chk at h; split at h <;> try (exact absurd h Bool.false_ne_true)
    simp only [Bool.and_eq_true, decide_eq_true_eq] at h
    obtain ⟨hm, rfl⟩ := h
    exact snd_leaf hm rfl sE_int
  | .str s, m, sc, e, h, X, M, g => by
    unfold chk at h; split at h <;> try (exact absurd h Bool.false_ne_true)
    simp only [Bool.and_eq_true, decide_eq_true_eq] at h
    obtain ⟨⟨hm, hx⟩, hs⟩ := h
    exact snd_leaf hm rfl (sE_str hx (strB_ok hs))
  | .glo j, m, sc, e, h, X, M, g => by
    unfold chk at h; split at h <;> try (exact absurd h Bool.false_ne_true)
    simp only [Bool.and_eq_true, decide_eq_true_eq] at h
    obtain ⟨⟨⟨hm, hi⟩, hv⟩, ho⟩ := h
    obtain ⟨v, u, h1, h2, h3⟩ := g.con j _ hi
    exact snd_leaf hm rfl (sE_glo (g.good.glob hv) h1 h2 (okN_1 ho).1 h3)
  | .tup es, m, sc, e, h, X, M, g => by
    unfold chk at h; split at h <;> try (exact absurd h Bool.false_ne_true)
    simp only [Bool.and_eq_true, decide_eq_true_eq, Bool.not_eq_true', Bool.or_eq_true, beq_iff_eq] at h
    obtain ⟨⟨⟨hm, hb⟩, hl⟩, hc⟩ := h
    rcases hm with hm | rfl
    · exact snd_leaf hm rfl (sE_tup hb hl (chks_ok es sc _ hc X M g))
    · exact sK_tup hb hl (chks_ok es sc _ hc X M g)
  | .ktt es, m, sc, e, h, X, M, g => by
    unfold chk at h; split at h <;> try (exact absurd h Bool.false_ne_true)
    simp only [Bool.and_eq_true, decide_eq_true_eq, Bool.not_eq_true'] at h
    obtain ⟨⟨⟨hm, hb⟩, hl⟩, hc⟩ := h
    exact snd_leaf hm rfl (pe_kt hb hl (chks_ok es sc _ hc X M g))
  | .ktv c, m, sc, e, h, X, M, g => by
    unfold chk at h
    simp only [Bool.and_eq_true, Bool.not_eq_true', beq_iff_eq] at h
    obtain ⟨⟨rfl, hb⟩, hc⟩ := h
    exact sK_ktv hb (chk_ok c 0 sc _ hc X M g).1
  | .lst es, m, sc, e, h, X, M, g => by
    unfold chk at h; split at h <;> try (exact absurd h Bool.false_ne_true)
    simp only [Bool.and_eq_true, decide_eq_true_eq, Bool.not_eq_true'] at h
    obtain ⟨⟨⟨hm, hb⟩, hl⟩, hc⟩ := h
    exact snd_new hm rfl (sN_lst hb hl (chks_ok es sc _ hc X M g))
  | .bin o a b, m, sc, e, h, X, M, g => by
    unfold chk at h; split at h <;> try (exact absurd h Bool.false_ne_true)
    simp only [Bool.and_eq_true] at h
    obtain ⟨⟨⟨hm, ho⟩, ha⟩, hb⟩ := h
    rw [bpB_ok ho] at hm ⊢
    exact snd_new hm rfl (sN_bin o (chk_ok a 0 sc _ ha X M g).1 (chk_ok b 0 sc _ hb X M g).1)
  | .neg a, m, sc, e, h, X, M, g => by
    unfold chk at h; split at h <;> try (exact absurd h Bool.false_ne_true)
    simp only [Bool.and_eq_true] at h
    exact snd_leaf h.1 rfl (sE_neg (chk_ok a 0 sc _ h.2 X M g).1)
  | .cmp o a b, m, sc, e, h, X, M, g => by
    unfold chk at h; split at h <;> try (exact absurd h Bool.false_ne_true)
    simp only [Bool.and_eq_true, decide_eq_true_eq] at h
    obtain ⟨⟨⟨⟨hm, ho⟩, hs⟩, ha⟩, hb⟩ := h
    rw [cpB_ok ho]
    have pa := (chk_ok a 0 sc _ ha X M g).1
    have pb := (chk_ok b 0 sc _ hb X M g).1
    exact snd_01 hm rfl (sE_cmp g.good.hu o hs pa pb) (sT_cmp g.good.hu o hs pa pb)
  | .chn o o2 a b c, m, sc, e, h, X, M, g => by
    unfold chk at h; split at h <;> try (exact absurd h Bool.false_ne_true)
    simp only [Bool.and_eq_true, decide_eq_true_eq, Bool.not_eq_true'] at h
    obtain ⟨⟨⟨⟨⟨⟨⟨⟨hm, ho⟩, ho2⟩, hbb⟩, hs⟩, hs2⟩, ha⟩, hb⟩, hc⟩ := h
    rw [cpB_ok ho, cpB_ok ho2]
    have pa := (chk_ok a 0 sc _ ha X M g).1
    have pb := (chk_ok b 0 sc _ hb X M g).1
    have pc := (chk_ok c 0 sc _ hc X M g).1
    exact snd_01 hm rfl (sE_chn g.good.hu o o2 hbb hs hs2 pa pb pc) (sT_chn g.good.hu o o2 hbb hs hs2 pa pb pc)
  | .isN n a, m, sc, e, h, X, M, g => by
    unfold chk at h; split at h <;> try (exact absurd h Bool.false_ne_true)
    simp only [Bool.and_eq_true, decide_eq_true_eq] at h
    obtain ⟨⟨hm, ho⟩, ha⟩ := h
    rw [isB_ok ho]
    have pa := (chk_ok a 0 sc _ ha X M g).1
    exact snd_01 hm rfl (sE_isN n pa) (sT_isN n pa)
  | .isB n k a, m, sc, e, h, X, M, g => by
    unfold chk at h; split at h <;> try (exact absurd h Bool.false_ne_true)
    simp only [Bool.and_eq_true, decide_eq_true_eq, beq_iff_eq] at h
    obtain ⟨⟨⟨hm, ho⟩, rfl⟩, ha⟩ := h
    rw [isB_ok ho]
    have pa := (chk_ok a 0 sc _ ha X M g).1
    exact snd_01 hm rfl (sE_isB n k pa) (sT_isB n k pa)
  | .and a b, m, sc, e, h, X, M, g => by
    unfold chk at h; split at h <;> try (exact absurd h Bool.false_ne_true)
    split at h
    · rename_i hm
      have hm := beq_iff_eq.mp hm
      subst hm
      simp only [Bool.and_eq_true, Bool.not_eq_true'] at h
      obtain ⟨⟨⟨h1, h2⟩, ha⟩, hb⟩ := h
      exact ⟨sE_and h1 h2 (chk_ok a 0 sc _ ha X M g).1 (chk_ok b 0 sc _ hb X M g).1, fun z => nomatch z⟩
    · rename_i hm
      have hm : m ≠ 0 := fun z => hm (beq_iff_eq.mpr z)
      simp only [Bool.and_eq_true, decide_eq_true_eq] at h
      obtain ⟨⟨hm2, ha⟩, hb⟩ := h
      exact snd_12 hm2 hm (sW_and (chk_ok a 1 sc _ ha X M g) (chk_ok b 2 sc _ hb X M g))
  | .or a b, m, sc, e, h, X, M, g => by
    unfold chk at h; split at h <;> try (exact absurd h Bool.false_ne_true)
    split at h
    · rename_i hm
      have hm := beq_iff_eq.mp hm
      subst hm
      simp only [Bool.and_eq_true, Bool.not_eq_true'] at h
      obtain ⟨⟨⟨h1, h2⟩, ha⟩, hb⟩ := h
      exact ⟨sE_or h1 h2 (chk_ok a 0 sc _ ha X M g).1 (chk_ok b 0 sc _ hb X M g).1, fun z => nomatch z⟩
    · rename_i hm
      have hm : m ≠ 0 := fun z => hm (beq_iff_eq.mpr z)
      simp only [Bool.and_eq_true, decide_eq_true_eq] at h
      obtain ⟨⟨hm2, ha⟩, hb⟩ := h
      exact snd_12 hm2 hm (sW_or (chk_ok a 1 sc _ ha X M g) (chk_ok b 2 sc _ hb X M g))
  | .one a, m, sc, e, h, X, M, g => by
    unfold chk at h; split at h <;> try (exact absurd h Bool.false_ne_true)
    split at h
    · rename_i hm
      have hm := beq_iff_eq.mp hm
      subst hm
      simp only [Bool.and_eq_true, Bool.not_eq_true'] at h
      exact ⟨sE_one h.1 (chk_ok a 0 sc _ h.2 X M g).1, fun z => nomatch z⟩
    · rename_i hm
      have hm : m ≠ 0 := fun z => hm (beq_iff_eq.mpr z)
      simp only [Bool.and_eq_true, decide_eq_true_eq] at h
      exact snd_12 h.1 hm (sW_one (chk_ok a 1 sc _ h.2 X M g))
  | .not a, m, sc, e, h, X, M, g => by
    unfold chk at h; split at h <;> try (exact absurd h Bool.false_ne_true)
    simp only [Bool.and_eq_true, decide_eq_true_eq] at h
    have q := chk_ok a m sc _ h.2 X M g
    match m, h.1, q with
    | 0, _, q => exact ⟨sE_not q.1, fun z => nomatch z⟩
    | 1, _, q => exact sT_not q
  | .ite c a b, m, sc, e, h, X, M, g => by
    unfold chk at h; split at h <;> try (exact absurd h Bool.false_ne_true)
    simp only [Bool.and_eq_true, beq_iff_eq, Bool.not_eq_true'] at h
    obtain ⟨⟨⟨⟨⟨rfl, h1⟩, h2⟩, hc⟩, ha⟩, hb⟩ := h
    exact ⟨sE_ite h1 h2 (chk_ok c 1 sc _ hc X M g) (chk_ok a 0 sc _ ha X M g).1 (chk_ok b 0 sc _ hb X M g).1, fun z => nomatch z⟩
  | .idx a i, m, sc, e, h, X, M, g => by
    unfold chk at h; split at h <;> try (exact absurd h Bool.false_ne_true)
    simp only [Bool.and_eq_true] at h
    obtain ⟨⟨⟨hm, hs⟩, ha⟩, hi⟩ := h
    exact snd_leaf hm rfl (sE_idx hs (chk_ok a 0 sc _ ha X M g).1 (chk_ok i 0 sc _ hi X M g).1)
  | .slc a l u, m, sc, e, h, X, M, g => by
    unfold chk at h; split at h <;> try (exact absurd h Bool.false_ne_true)
    simp only [Bool.and_eq_true] at h
    obtain ⟨⟨⟨hm, ha⟩, hl⟩, hu⟩ := h
    exact snd_new hm rfl (sN_slc (chk_ok a 0 sc _ ha X M g).1 (chk_ok l 0 sc _ hl X M g).1 (chk_ok u 0 sc _ hu X M g).1)
  | .slcL a l, m, sc, e, h, X, M, g => by
    unfold chk at h; split at h <;> try (exact absurd h Bool.false_ne_true)
    simp only [Bool.and_eq_true] at h
    obtain ⟨⟨hm, ha⟩, hl⟩ := h
    exact snd_new hm rfl (sN_slcL (chk_ok a 0 sc _ ha X M g).1 (chk_ok l 0 sc _ hl X M g).1)
  | .slcH a l, m, sc, e, h, X, M, g => by
    unfold chk at h; split at h <;> try (exact absurd h Bool.false_ne_true)
    simp only [Bool.and_eq_true] at h
    obtain ⟨⟨hm, ha⟩, hl⟩ := h
    exact snd_new hm rfl (sN_slcH (chk_ok a 0 sc _ ha X M g).1 (chk_ok l 0 sc _ hl X M g).1)
  | .call f es, m, sc, e, h, X, M, g => by
    unfold chk at h; split at h <;> try (exact absurd h Bool.false_ne_true)
    simp only [Bool.and_eq_true, decide_eq_true_eq] at h
    obtain ⟨⟨⟨⟨hm, hf⟩, hv⟩, ho⟩, hc⟩ := h
    have pa := chks_ok es sc _ hc X M g
    have ns := nostars hc
    rename_i x _ ees _
    cases ees with
    | nil =>
      cases es with
      | nil => exact snd_leaf hm rfl (sE_call0 (g.fns f _ hf) g.tk (g.good.glob hv) (okN_1 ho).1)
      | cons _ _ => simp [chks] at hc
    | cons ea ees => exact snd_leaf hm rfl (sE_call (g.fns f _ hf) g.tk (g.good.glob hv) (okN_1 ho).1 ns pa)
  | .bi b es, m, sc, e, h, X, M, g => by
    unfold chk at h; split at h <;> try (exact absurd h Bool.false_ne_true)
    simp only [Bool.and_eq_true, decide_eq_true_eq] at h
    obtain ⟨⟨⟨⟨hm, hx⟩, hv⟩, hmn⟩, hc⟩ := h
    subst hx
    have pa := chks_ok es sc _ hc X M g
    have ns := nostars hc
    refine snd_new hm rfl (sN_bi g.good.calm b ns (g.good.glob hv) ?_ pa)
    cases b with
    | gcd => exact g.gc hmn
    | _ => exact g.mn _ (List.contains_iff_mem.mp hmn)
  | .isi t a, m, sc, e, h, X, M, g => by
    unfold chk at h; split at h <;> try (exact absurd h Bool.false_ne_true)
    simp only [Bool.and_eq_true, decide_eq_true_eq] at h
    obtain ⟨⟨⟨⟨⟨⟨⟨⟨hm, rfl⟩, rfl⟩, hs⟩, hv⟩, hv2⟩, hm1⟩, hm2⟩, ha⟩ := h
    exact snd_leaf hm rfl (sE_isi hs (g.good.glob hv) (g.mn _ (List.contains_iff_mem.mp hm1)) (g.good.glob hv2) (g.mn _ (List.contains_iff_mem.mp hm2)) rfl (chk_ok a 0 sc _ ha X M g).1)
  | .strm a, m, sc, e, h, X, M, g => by
    unfold chk at h; split at h <;> try (exact absurd h Bool.false_ne_true)
    simp only [Bool.and_eq_true, Bool.not_eq_true'] at h
    obtain ⟨⟨⟨hm, hs⟩, hb⟩, ha⟩ := h
    exact snd_leaf hm rfl (sE_strm hs hb (chk_ok a 0 sc _ ha X M g).1)
  | .comp t it el, m, sc, e, h, X, M, g => by
    unfold chk at h; split at h <;> try (exact absurd h Bool.false_ne_true)
    simp only [Bool.and_eq_true, decide_eq_true_eq, Bool.not_eq_true', Bool.or_eq_true, beq_iff_eq] at h
    obtain ⟨⟨⟨⟨⟨⟨⟨hm, hb⟩, ho⟩, hn⟩, hbe⟩, ht⟩, hi⟩, he⟩ := h
    have pi := chki_ok it sc _ _ hi X M g
    have hg : ∀ X', X'.K = X.K → Gud X' (noW M) Z G N _ → PG X' _ (gT X.K t) := fun X' hK g' => by rw [← hK]; exact sT_tg g'.good t _ ht
    have he' : ∀ X', X'.K = X.K → Gud X' (noW M) Z G N _ → PE X' _ (tE X.K (noW M) Z el) := fun X' hK g' => by rw [← hK]; exact (chk_ok el 0 _ _ he X' (noW M) g').1
    rcases hm with hm | rfl
    · exact snd_new hm rfl ((sN_comp (c := .bl true) g hb ho hn hbe (fun _ _ _ => tB_true (c := el)) pi hg (fun X' _ _ => pts_nil) he').evi fun _ _ _ q => q)
    · intro i y py spos hy hl hk hw
      simp only [swOk, Bool.and_eq_true, Bool.not_eq_true'] at hw
      exact (sS_comp (c := .bl true) g hb ho hn hbe (fun _ _ _ => tB_true (c := el)) pi hg (fun X' _ _ => pts_nil) he' hy hl hk hw.1 hw.2).evi fun _ _ _ q => q
  | .compI t it c el, m, sc, e, h, X, M, g => by
    unfold chk at h; split at h <;> try (exact absurd h Bool.false_ne_true)
    simp only [Bool.and_eq_true, decide_eq_true_eq, Bool.not_eq_true', Bool.or_eq_true, beq_iff_eq] at h
    obtain ⟨⟨⟨⟨⟨⟨⟨⟨hm, hb⟩, ho⟩, hn⟩, hbe⟩, ht⟩, hi⟩, hc⟩, he⟩ := h
    have pi := chki_ok it sc _ _ hi X M g
    have hg : ∀ X', X'.K = X.K → Gud X' (noW M) Z G N _ → PG X' _ (gT X.K t) := fun X' hK g' => by rw [← hK]; exact sT_tg g'.good t _ ht
    have he' : ∀ X', X'.K = X.K → Gud X' (noW M) Z G N _ → PE X' _ (tE X.K (noW M) Z el) := fun X' hK g' => by rw [← hK]; exact (chk_ok el 0 _ _ he X' (noW M) g').1
    have hc' : ∀ X', X'.K = X.K → Gud X' (noW M) Z G N _ → PTs X' _ (tB X.K (noW M) Z c) := fun X' hK g' => pts_one (by rw [← hK]; exact chk_ok c 1 _ _ hc X' (noW M) g')
    rcases hm with hm | rfl
    · exact snd_new hm rfl (sN_comp g hb ho hn hbe (fun _ _ _ q => q) pi hg hc' he')
    · intro i y py spos hy hl hk hw
      simp only [swOk, Bool.and_eq_true, Bool.not_eq_true'] at hw
      exact sS_comp g hb ho hn hbe (fun _ _ _ q => q) pi hg hc' he' hy hl hk hw.1 hw.2
  | .comp2 t it t2 it2 el, m, sc, e, h, X, M, g => by
    unfold chk at h; split at h <;> try (exact absurd h Bool.false_ne_true)
    simp only [Bool.and_eq_true, decide_eq_true_eq, Bool.not_eq_true', Bool.or_eq_true, beq_iff_eq] at h
    obtain ⟨⟨⟨⟨⟨⟨⟨⟨⟨⟨hm, hb⟩, ho⟩, hn⟩, hn2⟩, hbe⟩, ht⟩, ht2⟩, hi⟩, hi2⟩, he⟩ := h
    have pi := chki_ok it sc _ _ hi X M g
    have hg : ∀ X', X'.K = X.K → Gud X' (noW M) Z G N _ → PG X' _ (gT X.K t) := fun X' hK g' => by rw [← hK]; exact sT_tg g'.good t _ ht
    have hg2 : ∀ X', X'.K = X.K → Gud X' (noW M) Z G N _ → PG X' _ (gT X.K t2) := fun X' hK g' => by rw [← hK]; exact sT_tg g'.good t2 _ ht2
    have pi2 : ∀ X', X'.K = X.K → Gud X' (noW M) Z G N _ → PI X' _ _ (tI X.K (noW M) Z it2) := fun X' hK g' => by rw [← hK]; exact chki_ok it2 _ _ _ hi2 X' (noW M) g'
    have he' : ∀ X', X'.K = X.K → Gud X' (noW M) Z G N _ → PE X' _ (tE X.K (noW M) Z el) := fun X' hK g' => by rw [← hK]; exact (chk_ok el 0 _ _ he X' (noW M) g').1
    rcases hm with hm | rfl
    · exact snd_new hm rfl (sN_comp2 g hb ho hn hn2 hbe pi hg pi2 hg2 he')
    · intro i y py spos hy hl hk hw
      simp only [swOk, Bool.and_eq_true, Bool.not_eq_true'] at hw
      exact sS_comp2 g hb ho hn hn2 hbe pi hg pi2 hg2 he' hy hl hk hw.1 hw.2
  | .attr a c k, m, sc, e, h, X, M, g => by
    unfold chk at h; split at h <;> try (exact absurd h Bool.false_ne_true)
    simp only [Bool.and_eq_true, decide_eq_true_eq] at h
    obtain ⟨⟨⟨⟨hm, hs⟩, hk⟩, ht⟩, ha⟩ := h
    exact snd_leaf hm rfl (sE_attr (g.att c k _ (List.contains_iff_mem.mp ht) hk) hs (chk_ok a 0 sc _ ha X M g).1)
  | .meth c f a es, m, sc, e, h, X, M, g => by
    unfold chk at h; split at h <;> try (exact absurd h Bool.false_ne_true)
    simp only [Bool.and_eq_true, decide_eq_true_eq, Bool.not_eq_true'] at h
    obtain ⟨⟨⟨⟨⟨⟨⟨⟨hm, hs⟩, hl⟩, hn⟩, hb⟩, hba⟩, ht⟩, ha⟩, hc⟩ := h
    exact snd_leaf hm rfl (sE_meth (g.mth c _ f (List.contains_iff_mem.mp ht)) g.tk hs hl (nostars hc) hn (fun e0 => by subst e0; cases es with
      | nil => rfl
      | cons _ _ => simp [chks] at hc) hb hba (chk_ok a 0 sc _ ha X M g).1 (chks_ok es sc _ hc X M g))
  | .make c f es, m, sc, e, h, X, M, g => by
    unfold chk at h; split at h <;> try (exact absurd h Bool.false_ne_true)
    simp only [Bool.and_eq_true, decide_eq_true_eq, Bool.not_eq_true'] at h
    obtain ⟨⟨⟨⟨⟨⟨hm, hx⟩, hv⟩, ho⟩, ht⟩, hb⟩, hc⟩ := h
    exact snd_leaf hm rfl (sE_make (g.mkc c f _ (List.contains_iff_mem.mp ht) hx) (g.good.glob hv) (okN_1 ho).1 (nostars hc) (fun e0 => by subst e0; cases es with
      | nil => rfl
      | cons _ _ => simp [chks] at hc) hb (chks_ok es sc _ hc X M g))
  | .newD t, m, sc, e, h, X, M, g => by
    unfold chk at h; split at h <;> try (exact absurd h Bool.false_ne_true)
    exact snd_leaf h rfl (sE_newD t)
  | .dget t d k, m, sc, e, h, X, M, g => by
    unfold chk at h; split at h <;> try (exact absurd h Bool.false_ne_true)
    simp only [Bool.and_eq_true] at h
    obtain ⟨⟨⟨⟨hm, hs⟩, hd⟩, hkb⟩, hk⟩ := h
    have pk : ∀ ek, chk N G (if t = true then 4 else 0) sc k ek = true → PE X ek (tKey X.K M Z t k) := fun ek hk => by
      cases t with
      | true => exact chk_ok k 4 sc _ hk X M g
      | false => exact sK_one (by simpa using hkb) (chk_ok k 0 sc _ hk X M g).1
    exact snd_leaf hm rfl (sE_dget g.good.hu hs (chk_ok d 0 sc _ hd X M g).1 (pk _ hk))
  | .dgetD t d k x, m, sc, e, h, X, M, g => by
    unfold chk at h; split at h <;> try (exact absurd h Bool.false_ne_true)
    simp only [Bool.and_eq_true, decide_eq_true_eq, Bool.not_eq_true'] at h
    obtain ⟨⟨⟨⟨⟨⟨⟨⟨⟨⟨hm, rfl⟩, hs⟩, hl⟩, h1⟩, h2⟩, hb⟩, hd⟩, hkb⟩, hk⟩, hx⟩ := h
    have pk : ∀ ek, chk N G (if t = true then 4 else 0) sc k ek = true → PE X ek (tKey X.K M Z t k) := fun ek hk => by
      cases t with
      | true => exact chk_ok k 4 sc _ hk X M g
      | false => exact sK_one (by simpa using hkb) (chk_ok k 0 sc _ hk X M g).1
    exact snd_leaf hm rfl (sE_dgetD g.good.hu hs hl h1 h2 hb (chk_ok d 0 sc _ hd X M g).1 (pk _ hk) (chk_ok x 0 sc _ hx X M g).1)
  | .sjoin a b, m, sc, e, h, X, M, g => by
    unfold chk at h; split at h <;> try (exact absurd h Bool.false_ne_true)
    simp only [Bool.and_eq_true, decide_eq_true_eq] at h
    obtain ⟨⟨⟨⟨⟨⟨hm, rfl⟩, hs⟩, hl⟩, h1⟩, ha⟩, hb⟩ := h
    exact snd_leaf hm rfl (sE_sjoin hs hl h1 (chk_ok a 0 sc _ ha X M g).1 (chk_ok b 0 sc _ hb X M g).1)
  | .newL a, m, sc, e, h, X, M, g => by
    unfold chk at h; split at h <;> try (exact absurd h Bool.false_ne_true)
    simp only [Bool.and_eq_true, decide_eq_true_eq, Bool.not_eq_true'] at h
    obtain ⟨⟨⟨⟨⟨⟨hm, rfl⟩, hv⟩, hmn⟩, hs⟩, hb⟩, ha⟩ := h
    exact snd_leaf hm rfl (sE_newL g.good.calm hs (g.good.glob hv) (g.mn _ (List.contains_iff_mem.mp hmn)) hb (chk_ok a 0 sc _ ha X M g).1)
  | .lenL a, m, sc, e, h, X, M, g => by
    unfold chk at h; split at h <;> try (exact absurd h Bool.false_ne_true)
    simp only [Bool.and_eq_true, decide_eq_true_eq, Bool.not_eq_true'] at h
    obtain ⟨⟨⟨⟨⟨⟨hm, rfl⟩, hv⟩, hmn⟩, hs⟩, hb⟩, ha⟩ := h
    exact snd_leaf hm rfl (sE_lenL g.good.calm hs (g.good.glob hv) (g.mn _ (List.contains_iff_mem.mp hmn)) hb (chk_ok a 0 sc _ ha X M g).1)
  | .isiL t a, m, sc, e, h, X, M, g => by
    unfold chk at h; split at h <;> try (exact absurd h Bool.false_ne_true)
    simp only [Bool.and_eq_true, decide_eq_true_eq, Bool.not_eq_true'] at h
    obtain ⟨⟨⟨⟨⟨⟨⟨⟨⟨hm, rfl⟩, rfl⟩, hs⟩, hv⟩, hv2⟩, hm1⟩, hm2⟩, hb⟩, ha⟩ := h
    exact snd_leaf hm rfl (sE_isiL hb hs (g.good.glob hv) (g.mn _ (List.contains_iff_mem.mp hm1)) (g.good.glob hv2) (g.mn _ (List.contains_iff_mem.mp hm2)) rfl (chk_ok a 0 sc _ ha X M g).1)
  | .slcHL a l, m, sc, e, h, X, M, g => by
    unfold chk at h; split at h <;> try (exact absurd h Bool.false_ne_true)
    simp only [Bool.and_eq_true, Bool.not_eq_true'] at h
    obtain ⟨⟨⟨hm, hb⟩, ha⟩, hl⟩ := h
    exact snd_new hm rfl (sN_slcHL hb (chk_ok a 0 sc _ ha X M g).1 (chk_ok l 0 sc _ hl X M g).1)
  | .isiC c a, m, sc, e, h, X, M, g => by
    unfold chk at h; split at h <;> try (exact absurd h Bool.false_ne_true)
    simp only [Bool.and_eq_true, decide_eq_true_eq, Bool.not_eq_true'] at h
    obtain ⟨⟨⟨⟨⟨⟨⟨⟨⟨⟨hm, rfl⟩, hc⟩, hi⟩, hs⟩, hv⟩, hv2⟩, ho⟩, hm1⟩, hb⟩, ha⟩ := h
    exact snd_leaf hm rfl (sE_isiC (g.isa c _ (List.contains_iff_mem.mp hi) hc) hb hs (g.good.glob hv) (g.mn _ (List.contains_iff_mem.mp hm1)) (g.good.glob hv2) (okN_1 ho).1 (chk_ok a 0 sc _ ha X M g).1)
  | .makeK c f es, m, sc, e, h, X, M, g => by
    unfold chk at h; split at h <;> try (exact absurd h Bool.false_ne_true)
    rename_i x px k0 ev kp pos
    cases es with
    | nil => exact absurd h Bool.false_ne_true
    | cons ce rest =>
      cases rest with
      | cons _ _ => exact absurd h Bool.false_ne_true
      | nil =>
        simp only [Bool.and_eq_true, decide_eq_true_eq, Bool.not_eq_true'] at h
        obtain ⟨⟨⟨⟨⟨⟨hm, hx⟩, hv⟩, ho⟩, ht⟩, hb⟩, hc⟩ := h
        exact snd_leaf hm rfl (sE_makeK (g.mkk c f _ _ (List.contains_iff_mem.mp ht) hx) (g.good.glob hv) (okN_1 ho).1 hb (chk_ok ce 0 sc _ hc X M g).1)
  | .kget j kvs k x, m, sc, e, h, X, M, g => by
    unfold chk at h; split at h <;> try (exact absurd h Bool.false_ne_true)
    simp only [Bool.and_eq_true, decide_eq_true_eq, Bool.not_eq_true'] at h
    obtain ⟨⟨⟨⟨⟨⟨⟨⟨⟨⟨hm, rfl⟩, hd⟩, hv⟩, ho⟩, hl⟩, h1⟩, h2⟩, hb⟩, hk⟩, hx⟩ := h
    exact snd_leaf hm rfl (sE_kget (g.dn j _ kvs hd) (g.good.glob hv) (okN_1 ho).1 hl h1 h2 hb (chk_ok k 0 sc _ hk X M g).1 (chk_ok x 0 sc _ hx X M g).1)
  | .srt a, m, sc, e, h, X, M, g => by
    unfold chk at h; split at h <;> try (exact absurd h Bool.false_ne_true)
    simp only [Bool.and_eq_true, decide_eq_true_eq] at h
    obtain ⟨⟨⟨⟨⟨hm, rfl⟩, hv⟩, hmn⟩, hs⟩, ha⟩ := h
    exact snd_new hm rfl (sN_srt hs (g.good.glob hv) (g.mn _ (List.contains_iff_mem.mp hmn)) (chk_ok a 0 sc _ ha X M g).1)
  | .scnt _ _, m, sc, e, h, X, M, g => by unfold chk at h; exact absurd h Bool.false_ne_true
  | .srfd _ _, m, sc, e, h, X, M, g => by unfold chk at h; exact absurd h Bool.false_ne_true
  | .din t n k d, m, sc, e, h, X, M, g => by
    unfold chk at h; split at h <;> try (exact absurd h Bool.false_ne_true)
    simp only [Bool.and_eq_true, decide_eq_true_eq] at h
    obtain ⟨⟨⟨⟨⟨hm, ho⟩, hs⟩, hd⟩, hkb⟩, hk⟩ := h
    have pk : ∀ ek, chk N G (if t = true then 4 else 0) sc k ek = true → PE X ek (tKey X.K M Z t k) := fun ek hk => by
      cases t with
      | true => exact chk_ok k 4 sc _ hk X M g
      | false => exact sK_one (by simpa using hkb) (chk_ok k 0 sc _ hk X M g).1
    rw [inB_ok ho]
    have pd := (chk_ok d 0 sc _ hd X M g).1
    exact snd_01 hm rfl (sE_din g.good.hu hs pd (pk _ hk)) (sT_din g.good.hu hs pd (pk _ hk))
theorem chks_ok : ∀ (es : Cs) (sc : PySem.Scope) (ees : List PySem.Expr), chks N G sc es ees = true → ∀ (X : Cx) (M : Mx), Gud X M Z G N sc → PA X ees (tEs X.K M Z es)
  | .nil, sc, [], h, X, M, g => sEs_nil
  | .cons e es, sc, ee :: ees, h, X, M, g => by
    unfold chks at h
    simp only [Bool.and_eq_true] at h
    exact sEs_cons h.1.1 (chk_ok e 0 sc _ h.1.2 X M g).1 (chks_ok es sc _ h.2 X M g)
  | .nil, sc, _ :: _, h, X, M, g => by simp [chks] at h
  | .cons _ _, sc, [], h, X, M, g => by simp [chks] at h
theorem chki_ok : ∀ (it : I) (sc : PySem.Scope) (tg e : PySem.Expr), chki N G sc it tg e = true → ∀ (X : Cx) (M : Mx), Gud X M Z G N sc → PI X tg e (tI X.K M Z it)
  | .seq a, sc, tg, e, h, X, M, g => by
    unfold chki at h
    simp only [Bool.and_eq_true, Bool.not_eq_true'] at h
    exact sI_seq h.1 (chk_ok a 0 sc _ h.2 X M g).1
  | .rng1 a, sc, tg, e, h, X, M, g => by
    unfold chki at h; split at h <;> try (exact absurd h Bool.false_ne_true)
    simp only [Bool.and_eq_true, decide_eq_true_eq] at h
    obtain ⟨⟨⟨⟨rfl, hv⟩, hm⟩, hs⟩, ha⟩ := h
    exact sI_rng1 hs (g.good.glob hv) (g.mn _ (List.contains_iff_mem.mp hm)) (chk_ok a 0 sc _ ha X M g).1
  | .rng2 a b, sc, tg, e, h, X, M, g => by
    unfold chki at h; split at h <;> try (exact absurd h Bool.false_ne_true)
    simp only [Bool.and_eq_true, decide_eq_true_eq] at h
    obtain ⟨⟨⟨⟨⟨⟨rfl, hv⟩, hm⟩, hs⟩, hs2⟩, ha⟩, hb⟩ := h
    exact sI_rng2 hs hs2 (g.good.glob hv) (g.mn _ (List.contains_iff_mem.mp hm)) (chk_ok a 0 sc _ ha X M g).1 (chk_ok b 0 sc _ hb X M g).1
  | .enum a, sc, tg, e, h, X, M, g => by
    unfold chki at h; split at h <;> try (exact absurd h Bool.false_ne_true)
    simp only [Bool.and_eq_true, decide_eq_true_eq, Bool.not_eq_true'] at h
    obtain ⟨⟨⟨⟨⟨rfl, hv⟩, hm⟩, hb⟩, hs⟩, ha⟩ := h
    exact sI_enum hb hs (g.good.glob hv) (g.mn _ (List.contains_iff_mem.mp hm)) (chk_ok a 0 sc _ ha X M g).1
  | .zip a b, sc, tg, e, h, X, M, g => by
    unfold chki at h; split at h <;> try (exact absurd h Bool.false_ne_true)
    simp only [Bool.and_eq_true, decide_eq_true_eq, Bool.not_eq_true'] at h
    obtain ⟨⟨⟨⟨⟨⟨⟨⟨rfl, hv⟩, hm⟩, hb⟩, hb2⟩, hs⟩, hs2⟩, ha⟩, hb'⟩ := h
    exact sI_zip hb hb2 hs hs2 (g.good.glob hv) (g.mn _ (List.contains_iff_mem.mp hm)) (chk_ok a 0 sc _ ha X M g).1 (chk_ok b 0 sc _ hb' X M g).1
end
end
end EV

namespace EV
open PySem L2
theorem dropDoc_ok {K : PySem.W.Frag} {M : Mx} {Z : Cxt} {X : Cx} {ss : Ss} (l : List PySem.Stmt) : PSs X (dropDoc l) (tSs K M Z ss) → PSs X l (tSs K M Z ss) := dropD_ok l
section
variable (N : List Str) (G : Gi)
def chkA (sc : PySem.Scope) (y : Str) (py : PySem.Pos) (c : C) (e : PySem.Expr) : Bool :=
  if nolc e then chk N G 0 sc c e else (decide (sc.names.lookup y = some .cell) && isLC e && nwC c && chk N G 0 sc c e) || (decide (sc.names.lookup y = some .local) && swOk y py e && chk N G 3 sc c e)
where isLC : PySem.Expr → Bool
  | .ListComp _ _ _ _ => true
  | _ => false
def bop2 : Bop → Bool
  | .add | .sub => true
  | _ => false
mutual
def chkS (sc : PySem.Scope) : S → PySem.Stmt → Bool
  | .set i c, st => (match st with
    | .Assign [.Name y py] e _ => decide (N[i]? = some y) && locB sc y && !isBor c && chkA N G sc y py c e
    | _ => false)
  | .own i c, st => (match st with
    | .Assign [.Name y py] e _ => decide (N[i]? = some y) && locB sc y && nwC c && chkA N G sc y py c e
    | _ => false)
  | .app i c, st => (match st with
    | .Expr (.Call (.Attribute (.Name x _) a apos) [e] [] cpos) _ => decide (a = ("append" : Str)) && decide (N[i]? = some x) && visB sc x && okN x && !isBor c && nostar e && (apos.endLine == cpos.line) && chk N G 0 sc c e
    | _ => false)
  | .ext i c, st => (match st with
    | .Expr (.Call (.Attribute (.Name x _) a apos) [e] [] cpos) _ => decide (a = ("extend" : Str)) && decide (N[i]? = some x) && visB sc x && okN x && nostar e && (apos.endLine == cpos.line) && chk N G 0 sc c e
    | _ => false)
  | .setI i k c, st => (match st with
    | .Assign [.Subscript (.Name x _) ke _] e _ => decide (N[i]? = some x) && visB sc x && okN x && !isBor c && noslice ke && !isBor k && chk N G 0 sc k ke && chk N G 0 sc c e
    | _ => false)
  | .stI i k c, st => (match st with
    | .Assign [.Subscript (.Name x _) (.Constant (.int kk) _ _) _] e _ => decide (kk = (k : Nat)) && decide (N[i]? = some x) && visB sc x && okN x && !isBor c && chk N G 0 sc c e
    | _ => false)
  | .aug i o c, st => (match st with
    | .AugAssign (.Name x _) p e _ => bop2 o && bpB o p && decide (N[i]? = some x) && locB sc x && !isBor c && chk N G 0 sc c e
    | _ => false)
  | .tset t c, st => (match st with
    | .Assign [.Tuple es kk tp] e _ => chkT N sc t (.Tuple es kk tp) && !isBor c && notup e && chk N G 0 sc c e
    | _ => false)
  | .par i j a b, st => (match st with
    | .Assign [.Tuple [.Name x px, .Name y py] _ _] (.Tuple [ea, eb] _ _) _ => decide (N[i]? = some x) && decide (N[j]? = some y) && decide (i ≠ j) && decide (sc.names.lookup x = some .local) && decide (sc.names.lookup y = some .local) && (px.line == py.line) && !(x == y) && !([ea, eb].all (foldedForSure 8)) && !([ea, eb].all (constantsAlone 8)) && nostar ea && nostar eb && !isBor a && !isBor b && chk N G 0 sc a ea && chk N G 0 sc b eb
    | _ => false)
  | .ex c, st => (match st with
    | .Expr e _ => nolc e && chk N G 0 sc c e
    | _ => false)
  | .ret c, st => (match st with
    | .Return (some e) _ => !isBor c && chk N G 0 sc c e
    | _ => false)
  | .retN, st => (match st with
    | .Return none _ => true
    | _ => false)
  | .ife c a b, st => (match st with
    | .If ec ea eb _ => chk N G 1 sc c ec && chkSs sc a ea && chkSs sc b eb
    | _ => false)
  | .whl c a, st => (match st with
    | .While ec ea [] _ => chk N G 1 sc c ec && chkSs sc a ea
    | _ => false)
  | .for_ t it a, st => (match st with
    | .For tg iter ea [] _ => noset iter && chkT N sc t tg && chki N G sc it tg iter && chkSs sc a ea
    | _ => false)
  | .brk, st => (match st with
    | .Break _ => true
    | _ => false)
  | .cnt, st => (match st with
    | .Continue _ => true
    | _ => false)
  | .pas, st => (match st with
    | .Pass _ => true
    | _ => false)
  | .rai, _ => true
  | .raise c cs, st => (match st with
    | .Raise (some (.Call (.Name x _) (e :: es) [] _)) none _ => (match G.xc[c]? with
      | some (y, ns) => decide (x = y) && gloB sc x && okN x && !hasBor cs && decide (lenC cs = ns.length) && decide (ns.length ≤ 20) && chks N G sc cs (e :: es)
      | none => false)
    | _ => false)
  | .tryx b hs, st => (match st with
    | .Try body (h0 :: hds) [] [] _ => chkSs sc b body && hdB N G sc hs (h0 :: hds)
    | _ => false)
  | .appC co c, st => (match st with
    | .Expr (.Call (.Attribute eo a apos) [e] [] cpos) _ => decide (a = ("append" : Str)) && notsup eo && !isBor co && !isBor c && nostar e && (apos.endLine == cpos.line) && chk N G 0 sc co eo && chk N G 0 sc c e
    | _ => false)
  | .frz _, _ => false
  | .setA i c k cv, st => (match st with
    | .Assign [.Attribute (.Name x p) f _] e _ => decide (N[i]? = some x) && visB sc x && okN x && decide (G.an[k]? = some f) && G.at_.contains (c, k) && nolc e && !isBor cv && chk N G 0 sc cv e
    | _ => false)
  | .dput t d k cv, st => (match st with
    | .Assign [.Subscript ed ek _] e _ => nolc e && !isBor cv && chk N G 0 sc d ed && (t || !isBor k) && chk N G (if t then 4 else 0) sc k ek && chk N G 0 sc cv e
    | _ => false)
def chkSs (sc : PySem.Scope) : Ss → List PySem.Stmt → Bool
  | .nil, l => (match dropDoc l with
    | [] => true
    | _ => false)
  | .cons s ss, l => (match s with
    | .frz _ => chkSs sc ss l
    | s => (match dropDoc l with
      | st :: rest => chkS sc s st && chkSs sc ss rest
      | [] => false))
end
end
/-- the context of a def's body -/
structure Bod (X : Cx) (M : Mx) (Z : Cxt) (G : Gi) (N : List Str) (sc : PySem.Scope) : Prop extends Gud X M Z G N sc where
  kind : X.env.scope.kind = .function
  po : PassesOwn (PySem.model X.prog X.w) X.A X.env X.xe
  st : X.stack = X.env :: X.outer
  frm : X.env.frame = some X.env.locals
section
variable {Z : Cxt} {N : List Str} {G : Gi} {X : Cx} {M : Mx} {sc : PySem.Scope}
theorem chkA_own {i : Nat} {y : Str} {py spos : PySem.Pos} {c : C} {e : PySem.Expr} (g : Bod X M Z G N sc) (hi : N[i]? = some y) (hl : locB sc y = true) (hn : nwC c = true) (h : chkA N G sc y py c e = true) : PS X (.Assign [.Name y py] e spos) (tS X.K M Z (.own i c)) := by
  unfold chkA at h
  split at h
  · rename_i h0
    exact sS_own g.good hi hl h0 ((chk_ok c 0 sc e h X M g.toGud).2 hn)
  · simp only [Bool.or_eq_true, Bool.and_eq_true, decide_eq_true_eq] at h
    rcases h with ⟨⟨⟨h1, h2⟩, h3⟩, h4⟩ | ⟨⟨h1, h2⟩, h4⟩
    · cases e with
      | ListComp elt gs scope pos => exact (sS_ownC g.good hi h1 ((chk_ok c 0 sc _ h4 X M g.toGud).2 h3)).evi fun D σ H q => tS_own q
      | _ => exact absurd h2 Bool.false_ne_true
    · exact (chk_ok c 3 sc e h4 X M g.toGud i y py spos hi h1 g.kind h2).evi fun D σ H q => tS_own q
theorem chkA_set {i : Nat} {y : Str} {py spos : PySem.Pos} {c : C} {e : PySem.Expr} (g : Bod X M Z G N sc) (hi : N[i]? = some y) (hl : locB sc y = true) (hb : isBor c = false) (h : chkA N G sc y py c e = true) : PS X (.Assign [.Name y py] e spos) (tS X.K M Z (.set i c)) := by
  unfold chkA at h
  split at h
  · rename_i h0
    exact sS_set g.good hi hl hb h0 (chk_ok c 0 sc e h X M g.toGud).1
  · simp only [Bool.or_eq_true, Bool.and_eq_true, decide_eq_true_eq] at h
    rcases h with ⟨⟨⟨h1, h2⟩, h3⟩, h4⟩ | ⟨⟨h1, h2⟩, h4⟩
    · cases e with
      | ListComp elt gs scope pos => exact (sS_ownC g.good hi h1 ((chk_ok c 0 sc _ h4 X M g.toGud).2 h3)).evi fun D σ H q => tE_tN hb (tS_set hb q)
      | _ => exact absurd h2 Bool.false_ne_true
    · exact (chk_ok c 3 sc e h4 X M g.toGud i y py spos hi h1 g.kind h2).evi fun D σ H q => tE_tN hb (tS_set hb q)
mutual
theorem chkS_ok : ∀ (s : S) (st : PySem.Stmt), chkS N G sc s st = true → ∀ (X : Cx) (M : Mx), Bod X M Z G N sc → PS X st (tS X.K M Z s)
  | .set i c, st, h, X, M, g => by
    unfold chkS at h; split at h <;> try (exact absurd h Bool.false_ne_true)
    simp only [Bool.and_eq_true, decide_eq_true_eq, Bool.not_eq_true'] at h
    obtain ⟨⟨⟨hi, hl⟩, hb⟩, hc⟩ := h
    exact chkA_set g hi hl hb hc
  | .own i c, st, h, X, M, g => by
    unfold chkS at h; split at h <;> try (exact absurd h Bool.false_ne_true)
    simp only [Bool.and_eq_true, decide_eq_true_eq] at h
    obtain ⟨⟨⟨hi, hl⟩, hb⟩, hc⟩ := h
    exact chkA_own g hi hl hb hc
  | .app i c, st, h, X, M, g => by
    unfold chkS at h; split at h <;> try (exact absurd h Bool.false_ne_true)
    simp only [Bool.and_eq_true, decide_eq_true_eq, Bool.not_eq_true'] at h
    obtain ⟨⟨⟨⟨⟨⟨⟨rfl, hi⟩, hv⟩, ho⟩, hb⟩, hs⟩, hl⟩, hc⟩ := h
    exact sS_app g.good hi hv (okN_1 ho).1 (okN_1 ho).2 hb hs hl (chk_ok c 0 sc _ hc X M g.toGud).1
  | .ext i c, st, h, X, M, g => by
    unfold chkS at h; split at h <;> try (exact absurd h Bool.false_ne_true)
    simp only [Bool.and_eq_true, decide_eq_true_eq, Bool.not_eq_true'] at h
    obtain ⟨⟨⟨⟨⟨⟨rfl, hi⟩, hv⟩, ho⟩, hs⟩, hl⟩, hc⟩ := h
    exact sS_ext g.good hi hv (okN_1 ho).1 (okN_1 ho).2 hs hl (chk_ok c 0 sc _ hc X M g.toGud).1
  | .setI i k c, st, h, X, M, g => by
    unfold chkS at h; split at h <;> try (exact absurd h Bool.false_ne_true)
    simp only [Bool.and_eq_true, decide_eq_true_eq, Bool.not_eq_true'] at h
    obtain ⟨⟨⟨⟨⟨⟨⟨hi, hv⟩, ho⟩, hb⟩, hn⟩, hkb⟩, hk⟩, hc⟩ := h
    exact sS_setI g.good hi hv (okN_1 ho).1 (okN_1 ho).2 hb hn hkb (chk_ok k 0 sc _ hk X M g.toGud).1 (chk_ok c 0 sc _ hc X M g.toGud).1
  | .stI i k c, st, h, X, M, g => by
    unfold chkS at h; split at h <;> try (exact absurd h Bool.false_ne_true)
    simp only [Bool.and_eq_true, decide_eq_true_eq, Bool.not_eq_true'] at h
    obtain ⟨⟨⟨⟨⟨rfl, hi⟩, hv⟩, ho⟩, hb⟩, hc⟩ := h
    exact sS_stI g.good hi hv (okN_1 ho).1 (okN_1 ho).2 hb (chk_ok c 0 sc _ hc X M g.toGud).1
  | .aug i o c, st, h, X, M, g => by
    unfold chkS at h; split at h <;> try (exact absurd h Bool.false_ne_true)
    simp only [Bool.and_eq_true, decide_eq_true_eq, Bool.not_eq_true'] at h
    obtain ⟨⟨⟨⟨⟨h2, hp⟩, hi⟩, hl⟩, hb⟩, hc⟩ := h
    rw [bpB_ok hp]
    exact sS_aug g.good (by cases o <;> first | exact .inl rfl | exact .inr rfl | exact absurd h2 Bool.false_ne_true) hi hl hb (chk_ok c 0 sc _ hc X M g.toGud).1
  | .tset t c, st, h, X, M, g => by
    unfold chkS at h; split at h <;> try (exact absurd h Bool.false_ne_true)
    simp only [Bool.and_eq_true, decide_eq_true_eq, Bool.not_eq_true'] at h
    obtain ⟨⟨⟨ht, hb⟩, hn⟩, hc⟩ := h
    exact sS_tset g.good ht hb hn (chk_ok c 0 sc _ hc X M g.toGud).1
  | .par i j a b, st, h, X, M, g => by
    unfold chkS at h; split at h <;> try (exact absurd h Bool.false_ne_true)
    simp only [Bool.and_eq_true, decide_eq_true_eq, Bool.not_eq_true'] at h
    obtain ⟨⟨⟨⟨⟨⟨⟨⟨⟨⟨⟨⟨⟨⟨hi, hj⟩, hij⟩, hx⟩, hy⟩, hl⟩, hxy⟩, h1⟩, h2⟩, na⟩, nb⟩, ba⟩, bb⟩, ca⟩, cb⟩ := h
    exact sS_par g.good g.kind hi hj hij hx hy hl hxy h1 h2 na nb ba bb (chk_ok a 0 sc _ ca X M g.toGud).1 (chk_ok b 0 sc _ cb X M g.toGud).1
  | .ex c, st, h, X, M, g => by
    unfold chkS at h; split at h <;> try (exact absurd h Bool.false_ne_true)
    simp only [Bool.and_eq_true] at h
    exact sS_ex h.1 (chk_ok c 0 sc _ h.2 X M g.toGud).1
  | .ret c, st, h, X, M, g => by
    unfold chkS at h; split at h <;> try (exact absurd h Bool.false_ne_true)
    simp only [Bool.and_eq_true, Bool.not_eq_true'] at h
    exact sS_ret h.1 (chk_ok c 0 sc _ h.2 X M g.toGud).1
  | .retN, st, h, X, M, g => by
    unfold chkS at h; split at h <;> try (exact absurd h Bool.false_ne_true)
    exact sS_retN
  | .ife c a b, st, h, X, M, g => by
    unfold chkS at h; split at h <;> try (exact absurd h Bool.false_ne_true)
    simp only [Bool.and_eq_true] at h
    exact sS_ife (chk_ok c 1 sc _ h.1.1 X M g.toGud) (chkSs_ok a _ h.1.2 X M g) (chkSs_ok b _ h.2 X M g)
  | .whl c a, st, h, X, M, g => by
    unfold chkS at h; split at h <;> try (exact absurd h Bool.false_ne_true)
    simp only [Bool.and_eq_true] at h
    exact sS_whl g.po (chk_ok c 1 sc _ h.1 X M g.toGud) (chkSs_ok a _ h.2 X M g)
  | .for_ t it a, st, h, X, M, g => by
    unfold chkS at h; split at h <;> try (exact absurd h Bool.false_ne_true)
    simp only [Bool.and_eq_true] at h
    exact sS_for g.po g.good.calm h.1.1.1 (chki_ok it sc _ _ h.1.2 X M g.toGud) (sT_tg g.good t _ h.1.1.2) (chkSs_ok a _ h.2 X M g)
  | .brk, st, h, X, M, g => by
    unfold chkS at h; split at h <;> try (exact absurd h Bool.false_ne_true)
    exact sS_brk
  | .cnt, st, h, X, M, g => by
    unfold chkS at h; split at h <;> try (exact absurd h Bool.false_ne_true)
    exact sS_cnt
  | .pas, st, h, X, M, g => by
    unfold chkS at h; split at h <;> try (exact absurd h Bool.false_ne_true)
    exact sS_pas
  | .raise c cs, st, h, X, M, g => by
    unfold chkS at h; split at h <;> try (exact absurd h Bool.false_ne_true)
    rename_i x px e es pos pos'
    split at h <;> try (exact absurd h Bool.false_ne_true)
    rename_i y ns hx
    simp only [Bool.and_eq_true, decide_eq_true_eq, Bool.not_eq_true'] at h
    obtain ⟨⟨⟨⟨⟨⟨rfl, hv⟩, ho⟩, hb⟩, hl⟩, h20⟩, hc⟩ := h
    exact sS_raise (G := G) g.good.calm g.tk g.xr hx (g.rs c _ ns hx) (g.good.glob hv) (okN_1 ho).1 hb hl h20 (nostars hc) (chks_ok cs sc _ hc X M g.toGud)
  | .tryx b hs, st, h, X, M, g => by
    unfold chkS at h; split at h <;> try (exact absurd h Bool.false_ne_true)
    simp only [Bool.and_eq_true] at h
    exact sS_tryx g.toGud g.st g.frm h.2 fun W ps xe tk po => chkSs_ok b _ h.1 (X.tr ps xe) { M with wx := W } ⟨g.toGud.tr tk, g.kind, po, g.st, g.frm⟩
  | .appC co c, st, h, X, M, g => by
    unfold chkS at h; split at h <;> try (exact absurd h Bool.false_ne_true)
    simp only [Bool.and_eq_true, decide_eq_true_eq, Bool.not_eq_true'] at h
    obtain ⟨⟨⟨⟨⟨⟨⟨rfl, hn⟩, hbo⟩, hb⟩, hs⟩, hl⟩, ho⟩, hc⟩ := h
    exact sS_appC hn hbo hb hs hl (chk_ok co 0 sc _ ho X M g.toGud).1 (chk_ok c 0 sc _ hc X M g.toGud).1
  | .rai, st, h, X, M, g => ps_never.evi fun D σ H ⟨W, σd, z, b, p⟩ => p
  | .frz _, st, h, X, M, g => by unfold chkS at h; exact absurd h Bool.false_ne_true
  | .setA i c k cv, st, h, X, M, g => by
    unfold chkS at h; split at h <;> try (exact absurd h Bool.false_ne_true)
    simp only [Bool.and_eq_true, decide_eq_true_eq, Bool.not_eq_true'] at h
    obtain ⟨⟨⟨⟨⟨⟨⟨hi, hv⟩, ho⟩, hf⟩, ht⟩, hn⟩, hb⟩, hc⟩ := h
    exact sS_setA (g.att c k _ (List.contains_iff_mem.mp ht) hf) hn hb (sE_var (by rw [g.good.hN]; exact hi) (g.good.vis hv) (okN_1 ho).1 (okN_1 ho).2) (chk_ok cv 0 sc _ hc X M g.toGud).1
  | .dput t d k cv, st, h, X, M, g => by
    unfold chkS at h; split at h <;> try (exact absurd h Bool.false_ne_true)
    simp only [Bool.and_eq_true, Bool.not_eq_true'] at h
    obtain ⟨⟨⟨⟨⟨hn, hb⟩, hd⟩, hkb⟩, hk⟩, hc⟩ := h
    have pk : ∀ ek, chk N G (if t = true then 4 else 0) sc k ek = true → PE X ek (tKey X.K M Z t k) := fun ek hk => by
      cases t with
      | true => exact chk_ok k 4 sc _ hk X M g.toGud
      | false => exact sK_one (by simpa using hkb) (chk_ok k 0 sc _ hk X M g.toGud).1
    exact sS_dput g.good.hu hn hb (chk_ok d 0 sc _ hd X M g.toGud).1 (pk _ hk) (chk_ok cv 0 sc _ hc X M g.toGud).1
theorem chkSs_ok : ∀ (ss : Ss) (l : List PySem.Stmt), chkSs N G sc ss l = true → ∀ (X : Cx) (M : Mx), Bod X M Z G N sc → PSs X l (tSs X.K M Z ss)
  | .nil, l, h, X, M, g => by
    unfold chkSs at h
    refine dropDoc_ok l ?_
    split at h
    · rename_i e
      rw [e]
      exact sSs_nil
    · exact absurd h Bool.false_ne_true
  | .cons s ss, l, h, X, M, g => by
    unfold chkSs at h
    split at h
    · exact sSs_frz (chkSs_ok ss l h X M g)
    · refine dropDoc_ok l ?_
      split at h
      · rename_i st rest e
        rw [e]
        simp only [Bool.and_eq_true] at h
        exact sSs_cons (chkS_ok s st h.1 X M g) (chkSs_ok ss rest h.2 X M g)
      · exact absurd h Bool.false_ne_true
end
end
/-! ### a body's run keeps the def's promise -/
theorem fl_out {K : PySem.W.Frag} {M : Mx} {W : Wd} {H : Hp} {z : Sto} {fl : Fl} {D : Ends} (h : match outD fl z with
    | .ok d z' => ∀ v W' H', Le M.W0 M.H0 W' H' → SR K W' H' z' → Rp K W' H' v d → D.rt v H'
    | .exn x z' => ∀ c dd W' H', Le M.W0 M.H0 W' H' → SR K W' H' z' → M.xr x c dd H' → ∀ σ, M.wx c dd σ H'
    | .err => False) (hn : ∀ σ H', D.rt .non H' → D.nx σ H') : FlQ K M W H D fl z := by
  cases fl with
  | nx σd => exact fun W' σ' H' m b => hn σ' H' (h .non W' H' b.le b.sr rfl)
  | rt d => exact h
  | bk _ => exact h.elim
  | ct _ => exact h.elim
  | xx x σd => exact fun c dd W' σ' H' b r => h c dd W' H' b.le b.sr r σ'
end EV

namespace EV
open PySem L2
/-- a written def: where it stands, its names, its parameters -/
structure Src where
  d : He.DefD
  N : List Str
  ps : List Str
/-- its parameters are given by their places -/
def Src.pos (s : Src) : Bool := s.d.params.kwonlyargs.isEmpty
def plainArgs (d : He.DefD) (ps : List Str) : Bool := decide (d.params.posonlyargs = []) && true
def srcB (G : Gi) (fn : Fn) (s : Src) : Bool :=
  (match s.d.scope.kind with | .function => true | _ => false) && !s.d.scope.isCoroutine && !s.d.scope.isGenerator && decide s.N.Nodup && decide (s.N.take s.ps.length = s.ps) &&
    (s.ps.all fun x => decide (s.d.scope.names.lookup x = some .local) || decide (s.d.scope.names.lookup x = some .cell)) && (s.d.scope.names.all fun y => decide (y.2 ≠ .free)) &&
    decide (fn.np = s.ps.length) && decide (fn.nn = s.N.length) && chkSs s.N G s.d.scope fn.body s.d.body
section
variable {G : Gi} {fn : Fn} {s : Src}
theorem srcB_ok (h : srcB G fn s = true) : FnScope s.N s.ps s.d.scope ∧ fn.np = s.ps.length ∧ fn.nn = s.N.length ∧ chkSs s.N G s.d.scope fn.body s.d.body = true := by
  unfold srcB at h
  simp only [Bool.and_eq_true, decide_eq_true_eq, Bool.not_eq_true', List.all_eq_true, Bool.or_eq_true] at h
  obtain ⟨⟨⟨⟨⟨⟨⟨⟨⟨h1, h2⟩, h3⟩, h4⟩, h5⟩, h6⟩, h7⟩, h8⟩, h9⟩, h10⟩ := h
  refine ⟨⟨?_, h2, h3, h4, h5, h6, h7⟩, h8, h9, h10⟩
  split at h1
  · assumption
  · cases h1
end
/-- what a law's facts tell of the table's functions and constants -/
structure Facts (T : Tab) (G : Gi) (srcs : List Src) (K : PySem.W.Frag) (mg : Str → Option Value) : Prop where
  def_ : ∀ (f : Nat) (s : Src), srcs[f]? = some s → ∃ fd fdd, T.fns[f]? = some fd ∧ srcB G fd s = true ∧ FunD K s.d.name s.d.qual s.d.params s.d.body s.d.scope [] [] (He.fAd K s.d.at_) fdd ∧ (s.pos = true → Binds K fdd s.ps [])
  fn : ∀ (f : Nat) (x : Str), G.nm[f]? = some (some x) → ∃ s, srcs[f]? = some s ∧ mg x = some (.ref (He.fAd K s.d.at_)) ∧ s.pos = true
  att : ∀ c k f, (c, k) ∈ G.at_ → G.an[k]? = some f → ∃ x, G.cl[c]? = some x ∧ Cls K (He.ga K x) ∧ NoAttr K (He.ga K x) f
  mth : ∀ c m f, (c, m, f) ∈ G.ms → ∃ x s, G.cl[c]? = some x ∧ srcs[f]? = some s ∧ Cls K (He.ga K x) ∧ Meth K (He.ga K x) m (He.fAd K s.d.at_) ∧ m ∉ G.an ∧ s.pos = true
  mkc : ∀ c f x, (c, f) ∈ G.mks → G.cl[c]? = some x → ∃ s, srcs[f]? = some s ∧ mg x = some (.ref (He.ga K x)) ∧ Mk K (He.ga K x) (He.fAd K s.d.at_) ∧ s.pos = true
  mkk : ∀ c f ks x, (c, f, ks) ∈ G.kw → G.cl[c]? = some x → ∃ s, srcs[f]? = some s ∧ mg x = some (.ref (He.ga K x)) ∧ Mk K (He.ga K x) (He.fAd K s.d.at_) ∧
    ∀ fdd, FunD K s.d.name s.d.qual s.d.params s.d.body s.d.scope [] [] (He.fAd K s.d.at_) fdd → KBn K fdd s.ps 1 ks (fun us ws => us ++ ws) (fun us ws => us ++ ws)
  rs : ∀ (c : Nat) (x : Str) (ns : List Str), G.xc[c]? = some (x, ns) → ∃ (s : Src) (fdd : FuncData), OexC K (He.ga K x) ∧ PySem.W.findIn K (.ref (He.ga K x)) "__init__" = some (some (.ref (He.fAd K s.d.at_))) ∧ PySem.W.typeIn K (.ref (He.fAd K s.d.at_)) = some (.type "function") ∧ FunD K s.d.name s.d.qual s.d.params s.d.body s.d.scope [] [] (He.fAd K s.d.at_) fdd ∧
    FnScope s.N s.ps s.d.scope ∧ s.N.length = ns.length + 1 ∧ s.ps.length = ns.length + 1 ∧ ns ≠ [] ∧ ns.length ≤ 20 ∧ iniB s.N s.d.scope 1 ns (dropDoc s.d.body) = true ∧ Binds K fdd s.ps [] ∧ mg x = some (.ref (He.ga K x))
  xf : ∀ (c : Nat) (x : Str) (ns : List Str), G.xc[c]? = some (x, ns) → XfAt K x ns
  xh : ∀ (h : Nat) (y : Str), G.xh[h]? = some y → mg y = some (.ref (He.ga K y))
  xm : ∀ (h : Nat) (y : Str) (tb : List Bool) (c : Nat) (x : Str) (ns : List Str), G.xh[h]? = some y → G.xm[h]? = some tb → G.xc[c]? = some (x, ns) → PySem.W.exmOne K (.ref (He.ga K x)) (.ref (He.ga K y)) = some (tb.getD c false)
  isa : ∀ (c : Nat) (x : Str), c ∈ G.is_ → G.cl[c]? = some x → mg x = some (.ref (He.ga K x)) ∧ Cls K (He.ga K x) ∧ PySem.W.findIn K (.ref (He.ga K x)) "__class__" = some (some (.builtin "object.__class__")) ∧ PySem.W.specialIn K (.builtin "object.__class__") "__get__" = some (some (.builtin "getset_descriptor.__get__")) ∧
    PySem.W.takesIn K (.builtin "object.__class__") = some true ∧ PySem.W.mroIn K (He.ga K x) (.type "object") = some true ∧ ∀ t ∈ ["NoneType", "bool", "int", "str", "tuple", "list"], PySem.W.kitOne K (.type t) (.ref (He.ga K x)) = some false
  nd : G.an.Nodup
  con : ∀ (j : Nat) (x : Str), G.cn[j]? = some x → ∃ v u, mg x = some u ∧ RelV v u ∧ ∀ d, T.con[j]? = some d → ∀ W H, Rp K W H v d
  mn : ∀ x ∈ G.mn, mg x = none
  gc : G.gc = true → mg "gcd" = some (.builtin "math.gcd")
/-- the written dicts of texts: their hashes hang on the world -/
structure FactsD (G : Gi) (K : PySem.W.Frag) (w : World) (mg : Str → Option Value) : Prop where
  dn : ∀ (j : Nat) (x : Str) (kvs : List (List Nat × Int)), G.dn[j]? = some (x, kvs) → ∃ a, mg x = some (.ref a) ∧ (∃ dd es n sl, K.lookup a = some ⟨.type "dict", dd, .dict es n, sl⟩ ∧ dd = none) ∧ (a == PySem.sysModules) = false ∧ ∀ s i, kvs.lookup s = some i → KDct K w a ⟨s.toArray⟩ (.int i)
/-- what never changes, by the facts -/
def statOf (G : Gi) (K : PySem.W.Frag) (h : G.an.Nodup) : Stat := ⟨fun c => (G.cl[c]?).map (He.ga K), fun k => G.an[k]?, fun _ _ _ a b => nodup_ix h a b⟩
section
variable {S0 : Stat} {T : Tab} {G : Gi} {srcs : List Src} {K : PySem.W.Frag} {mg : Str → Option Value} {P : Program} {w : World} {base : Heap} {xr : Xn → Value → Option Addr → Hp → Prop}
theorem callF_len {k f : Nat} {ds : List D} {z : Sto} {fd : Fn} (hf : T.fns[f]? = some fd) (h : callF T k f ds z ≠ .err) : ds.length = fd.np := by
  cases k with
  | zero => exact absurd rfl h
  | succ k =>
    unfold callF at h
    rw [hf] at h
    dsimp only at h
    split at h
    · assumption
    · exact absurd rfl h
theorem spF_len {k f : Nat} {vs : List V} {H : Hp} {Q : VK} {E : XK} {fd : Fn} (hf : T.fns[f]? = some fd) (h : spF K S0 (callF T k) xr f vs H Q E) : vs.length = fd.np := by
  obtain ⟨W, ds, z, hS, sr, r, q⟩ := h
  rw [r.len]
  refine callF_len hf (k := k) (z := z) fun e => ?_
  rw [e] at q
  exact q
theorem start_bi {W : Wd} {H : Hp} {z : Sto} {N : List Str} {vs : List V} {ds : List D} {nn np : Nat} (sr : SR K W H z) (r : Rps K W H vs ds) (hn : nn = N.length) (hp : np = ds.length) :
    BI K W H W (ds.map (fun d => some (Slot.val d)) ++ List.replicate (nn - np) none) z (L2.start N vs) H := by
  subst hn hp
  have lv := r.len
  refine ⟨?_, fun i sd v h1 h2 => ?_, fun i j a ds1 es h1 _ _ _ => ?_, sr, Le.refl⟩
  · unfold L2.start
    simp only [List.length_append, List.length_map, List.length_replicate, lv]
  · by_cases hi : i < ds.length
    · rw [List.getElem?_append_left (by rw [List.length_map]; exact hi), List.getElem?_map] at h1
      unfold L2.start at h2
      rw [List.getElem?_append_left (by rw [List.length_map, lv]; exact hi), List.getElem?_map] at h2
      cases e : ds[i]? with
      | none => rw [e] at h1; cases h1
      | some d =>
        rw [e] at h1
        cases h1
        obtain ⟨u, hu, ru⟩ := r.get e
        rw [hu] at h2
        cases h2
        exact ⟨u, rfl, ru⟩
    · rw [List.getElem?_append_right (by rw [List.length_map]; exact Nat.le_of_not_lt hi), List.getElem?_replicate] at h1
      split at h1
      · cases h1; trivial
      · cases h1
  · exfalso
    by_cases hi : i < ds.length
    · rw [List.getElem?_append_left (by rw [List.length_map]; exact hi), List.getElem?_map] at h1
      cases e : ds[i]? with
      | none => rw [e] at h1; cases h1
      | some d => rw [e] at h1; cases h1
    · rw [List.getElem?_append_right (by rw [List.length_map]; exact Nat.le_of_not_lt hi), List.getElem?_replicate] at h1
      split at h1 <;> cases h1
theorem fns_ok (F : Facts T G srcs K mg) (FD0 : FactsD G K w mg) : ∀ (k f : Nat) (fd : Fn) (s : Src) (fdd : FuncData), T.fns[f]? = some fd → srcB G fd s = true → FunD K s.d.name s.d.qual s.d.params s.d.body s.d.scope [] [] (He.fAd K s.d.at_) fdd →
    FnOk P w K mg base (L2.CX P w) (2 * k + 1) (He.fAd K s.d.at_) fdd s.ps (spF K (statOf G K F.nd) (callF T k) (xrOf G.xc K) f) := fun k => by
  induction k with
  | zero =>
    intro f fd s fdd hf hs FD
    obtain ⟨_, hnp, _, _⟩ := srcB_ok hs
    refine ⟨fun vs H Q E h => by rw [spF_len hf h, hnp], fun A outer s' H args us vs Q E _ _ _ _ h => ?_⟩
    obtain ⟨W, ds, z, hS, sr, r, q⟩ := h
    exact q.elim
  | succ k ih =>
    intro f fd s fdd hf hs FD
    obtain ⟨S, hnp, hnn, hc⟩ := srcB_ok hs
    show FnOk P w K mg base (L2.CX P w) (2 * k + 2 + 1) (He.fAd K s.d.at_) fdd s.ps (spF K (statOf G K F.nd) (callF T (k + 1)) (xrOf G.xc K) f)
    refine FD.ok S (fun vs H Q E h => by rw [spF_len hf h, hnp]) fun cdv A outer s' H vs Q E hr h => ?_
    obtain ⟨W, ds, z, hS, sr, r, q⟩ := h
    have hl : ds.length = fd.np := callF_len hf (k := k + 1) (z := z) fun e => by rw [e] at q; exact q
    have q2 : match runS (evSs ⟨callF T k, T.con, T.W⟩ fd.body (ds.map (fun d => some (Slot.val d)) ++ List.replicate (fd.nn - fd.np) none) z) with
      | .ok d z' => ∀ v W' H', Le W H W' H' → SR K W' H' z' → Rp K W' H' v d → Q v H'
      | .exn x z' => ∀ c dd W' H', Le W H W' H' → SR K W' H' z' → (xrOf G.xc K) x c dd H' → E c dd H'
      | .err => False := by
      have e : callF T (k + 1) f ds z = runS (evSs ⟨callF T k, T.con, T.W⟩ fd.body (ds.map (fun d => some (Slot.val d)) ++ List.replicate (fd.nn - fd.np) none) z) := by
        show (match T.fns[f]? with
          | none => (.err : Res D)
          | some fd => if ds.length = fd.np then runS (evSs ⟨callF T k, T.con, T.W⟩ fd.body (ds.map (fun d => some (Slot.val d)) ++ List.replicate (fd.nn - fd.np) none) z) else .err) = _
        rw [hf]
        exact if_pos hl
      rw [← e]
      exact q
    refine ⟨tSs K ⟨W, H, xrOf G.xc K, fun cls d _ H => E cls d H⟩ ⟨callF T k, T.con, T.W⟩ fd.body, ?_, ?_⟩
    · refine chkSs_ok (Z := ⟨callF T k, T.con, T.W⟩) fd.body s.d.body hc (cxOf (L2.CX P w) P w K mg base s.N s.d.qual s.d.scope (He.fAd K s.d.at_) cdv A outer s' H E) ⟨W, H, xrOf G.xc K, fun cls d _ H => E cls d H⟩ ⟨⟨⟨rfl, S.nd, rfl, fun x h => h, fun x h => ⟨h, rfl⟩, fun x h => .inl h, fun x h => h, ?_⟩, takes_of rfl rfl rfl rfl, fun f2 x2 h2 => ?_, F.con, F.mn, F.gc, fun c k2 x2 h1 h2 => ?_, fun c m2 f2 h2 => ?_, fun c f2 x2 h1 h2 => ?_, rfl, fun c x2 ns h1 => ?_, F.xf, F.xh, F.xm, fun c f2 ks x2 h1 h2 => ?_, fun j x2 kvs h1 => ⟨FD0.dn j x2 kvs h1⟩, fun c x2 h1 h2 => ?_⟩, S.kind, passes_of rfl, rfl, rfl⟩
      · have := hr.un
        show (A.deeper (PyProof.Rows.envOfC s.d.qual s.d.scope s'.heap.objs.size (He.fAd K s.d.at_) cdv)).units + 70 < cLine
        omega
      · obtain ⟨s2, e2, e5, ep⟩ := F.fn f2 x2 h2
        obtain ⟨fd2, fdd2, e1, e3, e4, e6⟩ := F.def_ f2 s2 e2
        exact ⟨2 * k + 1, _, fdd2, s2.ps, by rw [hS]; exact ih f2 fd2 s2 fdd2 e1 e3 e4, hr.mono (Nat.le_succ _), e5, e4.kp, e6 ep⟩
      · obtain ⟨x, e1, e2, e3⟩ := F.att c k2 x2 h1 h2
        exact ⟨_, by rw [hS]; show (G.cl[c]?).map (He.ga K) = _; rw [e1]; rfl, e2, e3, by rw [hS]; exact h2⟩
      · obtain ⟨x, s2, e1, e2, e3, e4, e5, ep⟩ := F.mth c m2 f2 h2
        obtain ⟨fd2, fdd2, q1, q3, q4, q6⟩ := F.def_ f2 s2 e2
        exact ⟨_, 2 * k + 1, _, fdd2, s2.ps, by rw [hS]; show (G.cl[c]?).map (He.ga K) = _; rw [e1]; rfl, e3, e4, by rw [hS]; exact ih f2 fd2 s2 fdd2 q1 q3 q4, hr.mono (Nat.le_succ _), q6 ep, fun j e => e5 (List.mem_of_getElem? (by rw [hS] at e; exact e))⟩
      · obtain ⟨s2, e2, e3, e4, ep⟩ := F.mkc c f2 x2 h1 h2
        obtain ⟨fd2, fdd2, q1, q3, q4, q6⟩ := F.def_ f2 s2 e2
        exact ⟨_, 2 * k + 1, _, fdd2, s2.ps, by rw [hS]; show (G.cl[c]?).map (He.ga K) = _; rw [h2]; rfl, e3, e4, by rw [hS]; exact ih f2 fd2 s2 fdd2 q1 q3 q4, hr, q6 ep⟩
      · obtain ⟨s2, fdd2, T2, iC, tI, q4, S2, n1, n2, n0, n3, ib, bd, hm⟩ := F.rs c x2 ns h1
        exact ⟨_, fdd2, s2.ps, 1, T2, iC, tI, init_ok q4 S2 n1 n2 n0 n3 ib T2 (F.xf c x2 ns h1).no, hr.mono (by omega), bd, hm⟩
      · obtain ⟨s2, e2, e3, e4, e5⟩ := F.mkk c f2 ks x2 h1 h2
        obtain ⟨fd2, fdd2, q1, q3, q4, q6⟩ := F.def_ f2 s2 e2
        exact ⟨_, 2 * k + 1, _, fdd2, s2.ps, by rw [hS]; show (G.cl[c]?).map (He.ga K) = _; rw [h2]; rfl, e3, e4, by rw [hS]; exact ih f2 fd2 s2 fdd2 q1 q3 q4, hr, e5 fdd2 q4⟩
      · obtain ⟨e1, e2⟩ := F.isa c x2 h1 h2
        exact ⟨_, by rw [hS]; show (G.cl[c]?).map (He.ga K) = _; rw [h2]; rfl, e1, e2⟩
    · refine ⟨W, _, z, start_bi sr r hnn hl.symm, ?_⟩
      cases e : evSs ⟨callF T k, T.con, T.W⟩ fd.body (ds.map (fun d => some (Slot.val d)) ++ List.replicate (fd.nn - fd.np) none) z with
      | err => rw [e] at q2; exact q2.elim
      | exn x2 z2 => rw [e] at q2; exact q2.elim
      | ok fl z2 =>
        rw [e] at q2
        refine fl_out ?_ fun σ H' h => h
        cases fl with
        | nx σd => exact q2
        | rt d => exact q2
        | bk _ => exact q2
        | ct _ => exact q2
        | xx x3 σd => exact fun c dd W' H' l sr' x' σ => q2 c dd W' H' l sr' x'
end
end EV

namespace EV
open PySem L2
/-! ### constants of the module -/
section
variable (K : PySem.W.Frag)
mutual
def conD : D → Value → Bool
  | .non, u => He.relB .non u
  | .bl b, u => He.relB (.bl b) u
  | .int i, u => He.relB (.int i) u
  | .str s, u => strB s && He.relB (.str ⟨s.toArray⟩) u
  | .tup ds, u => (match u with
    | .ref a => (match K.lookup a with
      | some ⟨.type c, _, .seq its _, _⟩ => decide (c = "tuple") && decide (its.size ≤ sizeLine) && conDs ds its.toList
      | _ => false)
    | _ => false)
  | _, _ => false
def conDs : List D → List Value → Bool
  | [], [] => true
  | d :: ds, u :: us => conD d u && conDs ds us
  | _, _ => false
end
variable {K}
mutual
theorem conD_ok : ∀ (d : D) (u : Value), conD K d u = true → ∃ v, RelV v u ∧ ∀ W H, Rp K W H v d
  | .non, u, h => ⟨.non, He.relB_ok h, fun _ _ => rfl⟩
  | .bl b, u, h => ⟨.bl b, He.relB_ok h, fun _ _ => rfl⟩
  | .int i, u, h => ⟨.int i, He.relB_ok h, fun _ _ => rfl⟩
  | .str s, u, h => by
    unfold conD at h
    rw [Bool.and_eq_true] at h
    exact ⟨.str ⟨s.toArray⟩, He.relB_ok h.2, fun _ _ => ⟨rfl, strB_ok h.1⟩⟩
  | .tup ds, u, h => by
    unfold conD at h
    split at h
    · rename_i a
      split at h
      · rename_i c od its n osl e
        simp only [Bool.and_eq_true, decide_eq_true_eq] at h
        obtain ⟨⟨rfl, hz⟩, hc⟩ := h
        obtain ⟨vs, rv, rp⟩ := conDs_ok ds _ hc
        exact ⟨.ref a, rfl, fun W H => ⟨a, vs, rfl, .inr ⟨_, its, n, e, rfl, rfl, hz, rv⟩, rp W H⟩⟩
      · cases h
    · cases h
  | .lst _, u, h => by simp [conD] at h
  | .obj _ _, u, h => by simp [conD] at h
  | .loc _, u, h => by simp [conD] at h
  | .strm, u, h => by simp [conD] at h
  | .ext _, u, h => by simp [conD] at h
  | .ktp _, u, h => by simp [conD] at h
theorem conDs_ok : ∀ (ds : List D) (us : List Value), conDs K ds us = true → ∃ vs, Vals vs us ∧ ∀ W H, Rps K W H vs ds
  | [], [], _ => ⟨[], .nil, fun _ _ => trivial⟩
  | d :: ds, u :: us, h => by
    unfold conDs at h
    rw [Bool.and_eq_true] at h
    obtain ⟨v, r, p⟩ := conD_ok d u h.1
    obtain ⟨vs, rs, ps⟩ := conDs_ok ds us h.2
    exact ⟨v :: vs, .cons r rs, fun W H => ⟨p W H, ps W H⟩⟩
  | [], _ :: _, h => by simp [conDs] at h
  | _ :: _, [], h => by simp [conDs] at h
end
end
/-! ### a law's data -/
structure Law where
  srcs : List Src
  fns : List Fn
  cs : List (Str × D)
  mn : List Str
  gc : Bool
  W : Nat
  cl : List Str := []
  an : List Str := []
  at_ : List (Nat × Nat) := []
  ms : List (Nat × Str × Nat) := []
  mks : List (Nat × Nat) := []
  xs : List (Src × List Str) := []
  xh : List Str := []
  xm : List (List Bool) := []
  dn : List (Str × List (List Nat × Int)) := []
  kws : List (Nat × Nat × Str) := []
  is_ : List Nat := []
def Src.cls (s : Src) : Str := s.d.at_.1
def Src.glob (s : Src) : Option Str := match s.d.at_.2 with
  | none => some s.d.at_.1
  | some _ => none
def Law.G (L : Law) : Gi := ⟨L.srcs.map Src.glob, L.cs.map (·.1), L.mn, L.gc, L.cl, L.an, L.at_, L.ms, L.mks, L.xs.map fun p => (p.1.cls, p.2), L.xh, L.xm, L.dn, L.kws.map fun p => (p.1, p.2.1, [p.2.2]), L.is_⟩
def Law.T (L : Law) : Tab := ⟨L.fns, L.cs.map (·.2), L.W⟩
def Law.fn (L : Law) : List He.DefD := L.srcs.map (·.d) ++ L.xs.map (·.1.d)
def Law.fa (_ : Law) : List He.Fa := []
def Law.exC (L : Law) (K : PySem.W.Frag) : Bool :=
  decide L.an.Nodup && (L.srcs.all fun s => match s.d.at_.2 with
    | none => (He.Fa.glo s.d.at_.1).ok K && s.pos
    | some _ => true) && (L.mn.all fun x => (He.Fa.free x).ok K) &&
  (L.at_.all fun p => match L.cl[p.1]?, L.an[p.2]? with
    | some x, some f => (He.Fa.cls x).ok K && (He.Fa.noat x f).ok K
    | _, _ => false) &&
  (L.ms.all fun p => match L.cl[p.1]?, L.srcs[p.2.2]? with
    | some x, some s => (He.Fa.cls x).ok K && (He.Fa.meth x p.2.1).ok K && decide (s.d.at_ = (x, some p.2.1)) && !L.an.contains p.2.1 && s.pos
    | _, _ => false) &&
  (L.mks.all fun p => match L.cl[p.1]?, L.srcs[p.2]? with
    | some x, some s => (He.Fa.glo x).ok K && (He.Fa.mkr x).ok K && decide (s.d.at_ = (x, some ("__init__" : Str))) && s.pos
    | _, _ => false)
/-- what is asked of the exception classes -/
def xsOk (K : PySem.W.Frag) (p : Src × List Str) : Bool := decide (p.1.d.at_.2 = some ("__init__" : Str)) && (He.Fa.glo p.1.cls).ok K && oexB K (He.ga K p.1.cls) && decide (PySem.W.findIn K (.ref (He.ga K p.1.cls)) "__init__" = some (some (.ref (He.fAd K p.1.d.at_)))) &&
  decide (PySem.W.typeIn K (.ref (He.fAd K p.1.d.at_)) = some (.type "function")) && xfB K (He.ga K p.1.cls) && (p.2.all fun f => (He.Fa.noat p.1.cls f).ok K)
def Law.exX (L : Law) (K : PySem.W.Frag) : Bool :=
  (L.xs.all (xsOk K)) && (L.xh.all fun y => (He.Fa.glo y).ok K) &&
  ((L.xh.zip L.xm).all fun q => L.xs.zipIdx.all fun p => decide (PySem.W.exmOne K (.ref (He.ga K p.1.1.cls)) (.ref (He.ga K q.1)) = some (q.2.getD p.2 false))) &&
  (L.kws.all fun p => match L.cl[p.1]?, L.srcs[p.2.1]? with
    | some x, some s => (He.Fa.glo x).ok K && (He.Fa.mkr x).ok K && decide (s.d.at_ = (x, some ("__init__" : Str)))
    | _, _ => false) &&
  (L.is_.all fun c => match L.cl[c]? with
    | some x => (He.Fa.glo x).ok K && (He.Fa.cls x).ok K && decide (PySem.W.findIn K (.ref (He.ga K x)) "__class__" = some (some (.builtin "object.__class__"))) && decide (PySem.W.specialIn K (.builtin "object.__class__") "__get__" = some (some (.builtin "getset_descriptor.__get__"))) &&
      decide (PySem.W.takesIn K (.builtin "object.__class__") = some true) && decide (PySem.W.mroIn K (He.ga K x) (.type "object") = some true) && (["NoneType", "bool", "int", "str", "tuple", "list"].all fun t => decide (PySem.W.kitOne K (.type t) (.ref (He.ga K x)) = some false))
    | none => false) &&
  (L.dn.all fun p => (He.Fa.glo p.1).ok K && p.2.all fun q => match PySem.W.nsIn K (He.ga K p.1) ⟨q.1.toArray⟩ with
    | some (some (.int j _)) => decide (j = q.2)
    | _ => false)
def Law.ex (L : Law) (K : PySem.W.Frag) : Bool :=
  (L.cs.all fun p => match PySem.W.nsIn K mainGlobals p.1 with
    | some (some u) => conD K p.2 u
    | _ => false) && (L.exC K && L.exX K) && (!L.gc || He.eqO (PySem.W.nsIn K mainGlobals "gcd") (some (some (.builtin "math.gcd"))))
def BindOk (s : Src) : Prop := ∀ (kV doc pm : Value) (an : Option Addr) (cdv ct : Value) (us : List Value), us.length = s.ps.length → bindArgs (PySem.W.fnOf s.d.name s.d.qual s.d.params s.d.body s.d.scope .none kV doc pm an cdv ct) ⟨us, []⟩ = pure (s.ps.zip us)
def AllB : List Src → Prop
  | [] => True
  | s :: r => (s.pos = true → BindOk s) ∧ AllB r
theorem AllB.get : ∀ {l : List Src} {i : Nat} {s : Src}, AllB l → l[i]? = some s → s.pos = true → BindOk s
  | [], i, s, _, h => by simp at h
  | a :: r, 0, s, b, h => by
    simp only [List.getElem?_cons_zero, Option.some.injEq] at h
    subst h
    exact b.1
  | a :: r, i + 1, s, b, h => AllB.get (i := i) b.2 (by simpa using h)
/-- a def with a first parameter and one keyword -/
def KBindOk (s : Src) (k : Str) : Prop := ∀ (kV doc pm : Value) (an : Option Addr) (cdv ct : Value) (us ws : List Value), us.length = 1 → ws.length = 1 → bindArgs (PySem.W.fnOf s.d.name s.d.qual s.d.params s.d.body s.d.scope .none kV doc pm an cdv ct) ⟨us, [k].zip ws⟩ = pure (s.ps.zip (us ++ ws))
/-- the written parts beside the table: the exceptions' makers, the classes made by keywords -/
structure Side (L : Law) : Prop where
  xs : ∀ p ∈ L.xs, BindOk p.1 ∧ p.1.d.dfl = [] ∧ p.1.d.kwd = [] ∧ FnScope p.1.N p.1.ps p.1.d.scope ∧ p.1.N.length = p.2.length + 1 ∧ p.1.ps.length = p.2.length + 1 ∧ p.2 ≠ [] ∧ p.2.length ≤ 20 ∧ iniB p.1.N p.1.d.scope 1 p.2 (dropDoc p.1.d.body) = true ∧ p.2.Nodup
  kw : ∀ p ∈ L.kws, ∀ s, L.srcs[p.2.1]? = some s → KBindOk s p.2.2
theorem Side.none {L : Law} (h : L.xs = []) (h2 : L.kws = []) : Side L := ⟨fun p hp => (by rw [h] at hp; cases hp), fun p hp => (by rw [h2] at hp; cases hp)⟩
/-- each def's code is its body's; the def stands under its name, without defaults -/
def okAll (G : Gi) : List Fn → List Src → Bool
  | [], [] => true
  | f :: fs, s :: ss => srcB G f s && s.d.dfl.isEmpty && s.d.kwd.isEmpty && okAll G fs ss
  | _, _ => false
theorem okAll_get {G : Gi} : ∀ {fs : List Fn} {ss : List Src} {i : Nat} {s : Src}, okAll G fs ss = true → ss[i]? = some s → ∃ f, fs[i]? = some f ∧ srcB G f s = true ∧ s.d.dfl = [] ∧ s.d.kwd = []
  | [], [], i, s, _, h => by simp at h
  | f :: fs, a :: ss, 0, s, o, h => by
    simp only [List.getElem?_cons_zero, Option.some.injEq] at h
    subst h
    unfold okAll at o
    simp only [Bool.and_eq_true, List.isEmpty_iff] at o
    exact ⟨f, rfl, o.1.1.1, o.1.1.2, o.1.2⟩
  | f :: fs, a :: ss, i + 1, s, o, h => by
    unfold okAll at o
    simp only [Bool.and_eq_true] at o
    obtain ⟨g, h1, h2⟩ := okAll_get (i := i) o.2 (by simpa using h)
    exact ⟨g, by simpa using h1, h2⟩
  | [], _ :: _, _, _, o, _ => by simp [okAll] at o
  | _ :: _, [], _, _, o, _ => by simp [okAll] at o
theorem facts_of {L : Law} {K : PySem.W.Frag} {h : Heap} {mg : Str → Option Value} (X : K.In h) (N : h.Ns mainGlobals mg) (ok : okAll L.G L.fns L.srcs = true) (hb : AllB L.srcs) (sd : Side L)
    (c : He.SaysD L.fa L.fn K) (e : L.ex K = true) : Facts L.T L.G L.srcs K mg := by
  have ex := e
  unfold Law.ex at ex
  rw [Bool.and_eq_true, Bool.and_eq_true, List.all_eq_true] at ex
  obtain ⟨⟨ex1, excx⟩, ex2⟩ := ex
  obtain ⟨exc, exx⟩ := Bool.and_eq_true_iff.mp excx
  unfold Law.exC at exc
  simp only [Bool.and_eq_true, List.all_eq_true, decide_eq_true_eq] at exc
  obtain ⟨⟨⟨⟨⟨nd, c1⟩, c2⟩, c3⟩, c4⟩, c5⟩ := exc
  unfold Law.exX at exx
  simp only [Bool.and_eq_true, List.all_eq_true, decide_eq_true_eq] at exx
  obtain ⟨⟨⟨⟨⟨x1, x2⟩, x3⟩, x4⟩, x5⟩, x6⟩ := exx
  have xc : ∀ (c : Nat) (x : Str) (ns : List Str), L.G.xc[c]? = some (x, ns) → ∃ s, L.xs[c]? = some (s, ns) ∧ s.cls = x ∧ (s, ns) ∈ L.xs := fun c x ns h => by
    have h : (L.xs.map fun p => (p.1.cls, p.2))[c]? = some (x, ns) := h
    rw [List.getElem?_map] at h
    obtain ⟨p, hp, e⟩ := Option.map_eq_some_iff.mp h
    cases e
    exact ⟨p.1, hp, rfl, List.mem_of_getElem? hp⟩
  refine ⟨fun f s hs => ?_, fun f x hf => ?_, fun c k f h1 h2 => ?_, fun c m f h => ?_, fun c f x h1 h2 => ?_, fun c f ks x h1 h2 => ?_, fun c x ns h => ?_, fun c x ns h => ?_, fun h y h1 => ?_, fun h y tb c x ns h1 h2 h3 => ?_, fun c x h1 h2 => ?_, nd, fun j x hj => ?_, fun x hx => ?_, fun hg => ?_⟩
  · obtain ⟨fd, h1, h2, n1, n2⟩ := okAll_get ok hs
    have hd : L.fn[f]? = some s.d := by
      show (L.srcs.map (·.d) ++ L.xs.map (·.1.d))[f]? = _
      rw [List.getElem?_append_left (by rw [List.length_map]; exact (List.getElem?_eq_some_iff.mp hs).1), List.getElem?_map, hs]; rfl
    obtain ⟨fdd, FD⟩ := c.def_ f hd
    rw [show He.DefD.dvs K s.d = [] by unfold He.DefD.dvs; rw [n1]; rfl, show He.DefD.kws K s.d = [] by unfold He.DefD.kws; rw [n2]; rfl] at FD
    exact ⟨fd, fdd, h1, h2, FD, fun hp => FD.bindsN (hb.get hs hp)⟩
  · have hf : (L.srcs.map Src.glob)[f]? = some (some x) := hf
    rw [List.getElem?_map] at hf
    obtain ⟨s, hs, e1⟩ := Option.map_eq_some_iff.mp hf
    have q := c1 s (List.mem_of_getElem? hs)
    refine ⟨s, hs, ?_⟩
    unfold Src.glob at e1
    have ea : ∀ (p : Str × Option Str), p.2 = none → He.fAd K p = He.ga K p.1 := fun p hp => by
      unfold He.fAd
      rw [hp]
    cases h : s.d.at_.2 with
    | none =>
      rw [h] at e1 q
      cases e1
      obtain ⟨q, q'⟩ := Bool.and_eq_true_iff.mp q
      rw [ea _ h]
      exact ⟨He.glo_ok X N q, q'⟩
    | some _ => rw [h] at e1; cases e1
  · have q := c3 (c, k) h1
    have h2 : L.an[k]? = some f := h2
    dsimp only at q
    cases e1 : L.cl[c]? with
    | none => rw [e1] at q; cases q
    | some x =>
      rw [e1, h2] at q
      simp only [Bool.and_eq_true] at q
      exact ⟨x, e1, He.cls_ok q.1, He.noat_ok q.2⟩
  · have q := c4 (c, m, f) h
    dsimp only at q
    cases e1 : L.cl[c]? with
    | none => rw [e1] at q; cases q
    | some x =>
      cases e2 : L.srcs[f]? with
      | none => rw [e1, e2] at q; cases q
      | some s =>
        rw [e1, e2] at q
        simp only [Bool.and_eq_true, decide_eq_true_eq, Bool.not_eq_true'] at q
        obtain ⟨⟨⟨⟨q1, q2⟩, q3⟩, q4⟩, q5⟩ := q
        refine ⟨x, s, e1, rfl, He.cls_ok q1, ?_, fun hm => ?_, q5⟩
        · rw [q3]; exact He.meth_ok q2
        · have hm : m ∈ L.an := hm
          rw [List.contains_iff_mem.mpr hm] at q4; cases q4
  · have q := c5 (c, f) h1
    have h2 : L.cl[c]? = some x := h2
    dsimp only at q
    cases e2 : L.srcs[f]? with
    | none => rw [h2, e2] at q; cases q
    | some s =>
      rw [h2, e2] at q
      simp only [Bool.and_eq_true, decide_eq_true_eq] at q
      obtain ⟨⟨⟨q1, q2⟩, q3⟩, q4⟩ := q
      refine ⟨s, rfl, He.glo_ok X N q1, ?_, q4⟩
      rw [q3]; exact He.mkr_ok q2
  · obtain ⟨p, hp, e⟩ := List.mem_map.mp (show (c, f, ks) ∈ L.kws.map fun p => (p.1, p.2.1, [p.2.2]) from h1)
    obtain ⟨c', f', k'⟩ := p
    cases e
    have q := x4 _ hp
    have h2 : L.cl[c']? = some x := h2
    dsimp only at q
    cases e2 : L.srcs[f']? with
    | none => rw [h2, e2] at q; cases q
    | some s =>
      rw [h2, e2] at q
      simp only [Bool.and_eq_true, decide_eq_true_eq] at q
      obtain ⟨⟨q1, q2⟩, q3⟩ := q
      refine ⟨s, rfl, He.glo_ok X N q1, ?_, fun fdd FD => ?_⟩
      · rw [q3]; exact He.mkr_ok q2
      · have kb := sd.kw _ hp s e2
        obtain ⟨oc, od, dV, kV, doc, pm, an, cdv, ct, osl, rfl, lk, hcd, hD, hK⟩ := FD.ex
        rcases hD with ⟨_, rfl⟩ | ⟨e, _⟩
        · exact ⟨fun s' us ws _ l1 l2 => .of_eq (kb kV doc pm an cdv ct us ws l1 l2), fun r1 r2 => r1.append r2⟩
        · exact absurd rfl e
  · obtain ⟨s, h1, rfl, h2⟩ := xc c x ns h
    have q := x1 _ h2
    unfold xsOk at q
    simp only [Bool.and_eq_true, decide_eq_true_eq] at q
    obtain ⟨⟨⟨⟨⟨⟨q1, q2⟩, q3⟩, q4⟩, q5⟩, q6⟩, q7⟩ := q
    obtain ⟨b1, b2, b3, b4, b5, b6, b7, b8, b9, b10⟩ := sd.xs _ h2
    have hd : L.fn[L.srcs.length + c]? = some s.d := by
      show (L.srcs.map (·.d) ++ L.xs.map (·.1.d))[L.srcs.length + c]? = _
      rw [List.getElem?_append_right (by rw [List.length_map]; omega), List.length_map, Nat.add_sub_cancel_left, List.getElem?_map, h1]; rfl
    obtain ⟨fdd, FD⟩ := ‹He.SaysD L.fa L.fn K›.def_ _ hd
    rw [show He.DefD.dvs K s.d = [] by unfold He.DefD.dvs; rw [b2]; rfl, show He.DefD.kws K s.d = [] by unfold He.DefD.kws; rw [b3]; rfl] at FD
    exact ⟨s, fdd, oexB_ok q3, q4, q5, FD, b4, b5, b6, b7, b8, b9, FD.bindsN b1, He.glo_ok X N q2⟩
  · obtain ⟨s, h1, rfl, h2⟩ := xc c x ns h
    have q := x1 _ h2
    unfold xsOk at q
    simp only [Bool.and_eq_true, decide_eq_true_eq, List.all_eq_true] at q
    obtain ⟨⟨⟨⟨⟨⟨q1, q2⟩, q3⟩, q4⟩, q5⟩, q6⟩, q7⟩ := q
    obtain ⟨b1, b2, b3, b4, b5, b6, b7, b8, b9, b10⟩ := sd.xs _ h2
    exact ⟨xfB_ok q6, fun f hf => He.noat_ok (q7 f hf), b10⟩
  · exact He.glo_ok X N (x2 y (List.mem_of_getElem? h1))
  · obtain ⟨s, e1, rfl, e2⟩ := xc c x ns h3
    have m1 : (y, tb) ∈ L.xh.zip L.xm := List.mem_of_getElem? (i := h) (by
      rw [List.getElem?_zip_eq_some]
      exact ⟨h1, h2⟩)
    refine x3 _ m1 ((s, ns), c) ?_
    refine List.mem_of_getElem? (i := c) ?_
    rw [List.getElem?_zipIdx, e1]
    simp
  · have q := x5 c h1
    have h2 : L.cl[c]? = some x := h2
    rw [h2] at q
    simp only [Bool.and_eq_true, decide_eq_true_eq, List.all_eq_true] at q
    obtain ⟨⟨⟨⟨⟨⟨q1, q2⟩, q3⟩, q4⟩, q5⟩, q6⟩, q7⟩ := q
    exact ⟨He.glo_ok X N q1, He.cls_ok q2, q3, q4, q5, q6, q7⟩
  · have hj : (L.cs.map (·.1))[j]? = some x := hj
    rw [List.getElem?_map] at hj
    obtain ⟨p, hp, rfl⟩ := Option.map_eq_some_iff.mp hj
    have q := ex1 p (List.mem_of_getElem? hp)
    split at q
    · rename_i u eu
      obtain ⟨v, rv, rp⟩ := conD_ok _ _ q
      refine ⟨v, u, PySem.W.mg_of X N eu, rv, fun d hd => ?_⟩
      have hd : (L.cs.map (·.2))[j]? = some d := hd
      rw [List.getElem?_map, hp] at hd
      cases hd
      exact rp
    · cases q
  · exact He.free_ok X N (c2 x hx)
  · have hg : L.gc = true := hg
    rw [hg] at ex2
    exact PySem.W.mg_of X N (He.eqO_ok (by simpa using ex2))
/-! ### the Hook -/
def Law.dicts (L : Law) (K : PySem.W.Frag) : List (Option (List (Option (Str × Int)))) := L.dn.map fun p => He.dicW K (He.ga K p.1)
def Law.dictsV (L : Law) (w : World) : List (Option (List (Option (Str × Int)))) := L.dn.map fun p => some (He.keysIn w.params (p.2.map fun q => ⟨q.1.toArray⟩))
abbrev AlE : Type := He.AlD × (List (Option (List (Option (Str × Int)))) × Bool)
def hookE (n : Nat) (L : Law) : PySem.W.Hook where
  α := AlE
  obs := fun s => (He.obsD L.fa L.fn (He.frG s.heap.get? (He.asD s.heap.get? n)), (L.dicts (He.frG s.heap.get? (He.asD s.heap.get? n)), L.ex (He.frG s.heap.get? (He.asD s.heap.get? n))))
  val := fun w => (He.valD L.fn, (L.dictsV w, true))
  says := fun w h => ∃ K : PySem.W.Frag, K.In h ∧ He.SaysD L.fa L.fn K ∧ L.dicts K = L.dictsV w ∧ L.ex K = true
  of := fun _ _ e => ⟨_, He.frG_in, congrArg Prod.fst e, congrArg (fun p => p.2.1) e, congrArg (fun p => p.2.2) e⟩
  keeps := fun _ _ _ ⟨K, hK, c⟩ k => ⟨K, PySem.W.Frag.In.keeps hK k, c⟩
def obE (n : Nat) (L : Law) (g : Addr → Option Obj) : AlE := (He.obsD L.fa L.fn (He.frG g (He.asD g n)), (L.dicts (He.frG g (He.asD g n)), L.ex (He.frG g (He.asD g n))))
theorem obE_eq {n : Nat} {L : Law} {g : Addr → Option Obj} {s : Shared} (h : ∀ a, g a = s.heap.get? a) : obE n L g = (hookE n L).obs s := by
  have e : g = s.heap.get? := funext h
  rw [e] <;> rfl
theorem factsD_of {L : Law} {K : PySem.W.Frag} {h : Heap} {w : World} {mg : Str → Option Value} (X : K.In h) (N : h.Ns mainGlobals mg) (c : L.dicts K = L.dictsV w) (e : L.ex K = true) : FactsD L.G K w mg := by
  unfold Law.ex at e
  rw [Bool.and_eq_true, Bool.and_eq_true] at e
  have e := (Bool.and_eq_true_iff.mp e.1.2).2
  unfold Law.exX at e
  rw [Bool.and_eq_true, List.all_eq_true] at e
  refine ⟨fun j x kvs hj => ?_⟩
  have hj : L.dn[j]? = some (x, kvs) := hj
  have q := e.2 _ (List.mem_of_getElem? hj)
  rw [Bool.and_eq_true, List.all_eq_true] at q
  obtain ⟨q1, q2⟩ := q
  have c : (L.dn.map fun p => He.dicW K (He.ga K p.1))[j]? = (L.dn.map fun p => some (He.keysIn w.params (p.2.map fun q => ⟨q.1.toArray⟩)))[j]? := congrArg (fun l => l[j]?) c
  rw [List.getElem?_map, List.getElem?_map, hj] at c
  have c := Option.some.inj c
  obtain ⟨es, n, hl, hk, low⟩ := He.dicW_ok c
  refine ⟨He.ga K x, He.glo_ok X N q1, ⟨_, es, n, _, hl, rfl⟩, low, fun s i hi => ?_⟩
  have mem : (s, i) ∈ kvs := by
    have go : ∀ l : List (List Nat × Int), l.lookup s = some i → (s, i) ∈ l := fun l => by
      induction l with
      | nil => intro h; cases h
      | cons p l ih =>
        obtain ⟨t, k⟩ := p
        intro h
        rw [List.lookup_cons] at h
        split at h
        · rename_i hb
          cases h
          rw [beq_iff_eq.mp hb]; exact List.mem_cons_self
        · exact List.mem_cons_of_mem _ (ih h)
    exact go kvs hi
  have q3 := q2 _ mem
  dsimp only at q3
  split at q3
  · rename_i k t hn
    have ek : k = i := of_decide_eq_true q3
    subst ek
    exact ⟨es, n, _, hl, hk, hn, ⟨t, rfl⟩⟩
  · cases q3
/-! ### the end -/
/-- the law's answer at a script, by the evaluator: f the law's place in the table -/
def Says (T : Tab) (k f : Nat) (n : Nat) : Prop := ∀ ns : List Int, ns.length ≤ n → (∀ z ∈ ns, Builtin.Int.intBits z ≤ 1048576) → ∃ z', callF T k f [.ext ns] ⟨none, []⟩ = .ok (.bl true) z'
theorem CX_none {P : Program} {w : World} {l : List Env} {H : Hp} {s : Shared} {e : Value} {s' : Shared} (h : L2.CX P w l H s (fun _ _ _ => False) e s') : False := by
  obtain ⟨_, _, _, _, _, _, _, _, _, _, _, _, h⟩ := h
  exact h
theorem law_end {l : PySem.W.OpenLaw} {n k f : Nat} {q : Program} {loose : List Str} {XP : (Str → Option Value) → Heap → Prop} {d : DefRec} {x : Str} {L : Law} {m : Nat} {s : Src}
    (hn : l.most = some n) (hn2 : n ≤ sizeLine) (hdf : d.params.defaults = []) (hr : Room (2 * k + 1) callerA)
    (ok : okAll L.G L.fns L.srcs = true) (hb : AllB L.srcs) (sd : Side L) (hpo : s.pos = true) (hs : L.srcs[f]? = some s) (hps : s.ps = [x]) (hname : s.glob = some d.name) (says : Says L.T k f n) :
    PySem.W.WalkO q loose XP (hookE m L).says l.row.toRowW d [] (fun f vs => PySem.call f vs) := by
  refine LamX.walk_ofTsE (k := 2 * k + 1) (n := n) (x := x) (CX := fun w => L2.CX l.prog w) hn hn2 hdf hr (fun w mg fa h Y G hmg => ?_) fun w H s e s' h => CX_none h
  obtain ⟨K, KX, c, cd, e⟩ := Y
  have F := facts_of KX G ok hb sd c e
  have FD0 := factsD_of KX G cd e
  have hnm : L.G.nm[f]? = some (some d.name) := by
    show (L.srcs.map Src.glob)[f]? = _
    rw [List.getElem?_map, hs, ← hname]; rfl
  obtain ⟨s2, h2, h5, _⟩ := F.fn f d.name hnm
  rw [hs] at h2
  cases h2
  obtain ⟨fd, fdd, h1, h3, h4, h6⟩ := F.def_ f s hs
  rw [hmg] at h5
  cases h5
  refine ⟨K, KX, fdd, [], spF K (statOf L.G K F.nd) (callF L.T k) (xrOf L.G.xc K) f, (fun p hp => nomatch hp), (fun p hp => nomatch hp), (fun p hp => nomatch hp), fun s' u => ?_, fun H a ns hl hbits _ hS => ?_, fun base hK hN _ => ?_⟩
  · have b := h4.bindsA (hb.get hs hpo) s' [u] (by rw [hps]; rfl)
    rw [hps] at b
    exact b
  · obtain ⟨z', hz⟩ := says ns hl hbits
    refine ⟨⟨fun b => b = a ∧ ∃ o, H b = some o, [], none, statOf L.G K F.nd⟩, [.ext ns], ⟨none, []⟩, rfl, ⟨⟨fun b f => f.2, fun b f => (fun e => nomatch e), fun b f => (by simp), fun b m => (nomatch m), fun b e => (nomatch e), List.nodup_nil⟩, trivial, rfl⟩, ⟨⟨a, rfl, ?_⟩, trivial⟩, ?_⟩
    · rcases hS with (h | ⟨o, h⟩) | h
      · exact .inl ⟨⟨rfl, _, h⟩, .inl (.inl h)⟩
      · exact .inl ⟨⟨rfl, _, h⟩, .inl (.inr ⟨o, h⟩)⟩
      · exact .inr fun H' => .inr h
    · rw [hz]
      exact fun v W' H' _ _ r => r
  · have R := fns_ok (P := l.prog) (w := w) (base := base)  F FD0 k f fd s fdd h1 h3 h4
    rw [hps] at R
    exact R
end EV

namespace LW
open PySem PySem.Spec PyProof.Rows L2 EV
def inC (s : PySem.Stmt) (j : Nat) : PySem.Stmt := match s with
  | .ClassDef _ _ _ b _ _ _ _ _ _ _ => b.getD j (.Pass ⟨0, 0, 0, 0⟩)
  | _ => .Pass ⟨0, 0, 0, 0⟩
def top (i : Nat) : PySem.Stmt := PySem.Challenge.pw_oddscall_k73_graphs_of_grammars.main.body.getD i (.Pass ⟨0, 0, 0, 0⟩)
/-- law -/
def s0 : Src := ⟨⟨("law", none), "law", "law", defArgs (top 64), defBody (top 64), defScope (top 64), [], []⟩, ["_law_script", "_law_stream_here", "_law_grammar", "_law_due", "_law_graph_here", "_law_reached", "_law_place"], ["_law_script"]⟩
def b0 : Ss := .cons (.set 1 (.call 1 (.cons (.var 0) (.nil)))) (.cons (.set 2 (.call 32 (.cons (.var 1) (.nil)))) (.cons (.set 3 (.call 64 (.cons (.var 2) (.nil)))) (.cons (.set 4 (.call 37 (.cons (.var 2) (.nil)))) (.cons (.ife (.not (.call 65 (.cons (.attr (.var 4) 0 0) (.cons (.var 3) (.nil))))) (.cons (.ret (.bl false)) (.nil)) (.nil)) (.cons (.set 5 (.compI (.nm 6) (.seq (.meth 0 66 (.var 4) (.cons (.ktt (.cons (.int (0)) (.cons (.int (0)) (.nil)))) (.nil)))) (.cmp .eq (.idx (.var 6) (.int (1))) (.int (0))) (.idx (.var 6) (.int (0))))) (.cons (.ret (.cmp .eq (.var 5) (.call 67 (.cons (.var 2) (.nil))))) (.nil)))))))
def f0 : Fn := ⟨1, 7, b0⟩
/-- _law_stream -/
def s1 : Src := ⟨⟨("_law_stream", none), "_law_stream", "_law_stream", defArgs (top 53), defBody (top 53), defScope (top 53), [], []⟩, ["_law_script"], ["_law_script"]⟩
def b1 : Ss := .cons (.ret (.strm (.bi .list (.cons (.var 0) (.nil))))) (.nil)
def f1 : Fn := ⟨1, 1, b1⟩
/-- _law_next -/
def s3 : Src := ⟨⟨("_law_next", none), "_law_next", "_law_next", defArgs (top 54), defBody (top 54), defScope (top 54), [], []⟩, ["_law_stream_here", "_law_many", "_law_digit", "_law_k", "_law_cell"], ["_law_stream_here", "_law_many"]⟩
def b3 : Ss := .cons (.ife (.cmp .eq (.idx (.var 0) (.int (1))) (.int (0))) (.cons (.set 3 (.idx (.var 0) (.int (2)))) (.cons (.set 4 (.bin .add (.int (7)) (.var 3))) (.cons (.ife (.cmp .lt (.var 3) (.bi .len (.cons (.idx (.var 0) (.int (0))) (.nil)))) (.cons (.set 4 (.bi .abs (.cons (.idx (.idx (.var 0) (.int (0))) (.var 3)) (.nil)))) (.nil)) (.nil)) (.cons (.ife (.cmp .lt (.var 4) (.bin .pow (.int (10)) (.int (18)))) (.cons (.set 4 (.bin .mod (.bi .int (.cons (.bin .add (.bin .add (.bin .mul (.var 4) (.int (48271))) (.bin .mul (.var 3) (.int (69621)))) (.int (11))) (.nil))) (.int (2147483647)))) (.cons (.set 4 (.bin .add (.bin .mul (.bin .mod (.bi .int (.cons (.bin .add (.bin .mul (.var 4) (.int (16807))) (.int (13))) (.nil))) (.int (2147483647))) (.int (65537))) (.var 4))) (.nil))) (.nil)) (.cons (.stI 0 1 (.var 4)) (.cons (.stI 0 2 (.bin .add (.var 3) (.int (1)))) (.nil))))))) (.nil)) (.cons (.set 2 (.bin .mod (.bi .int (.cons (.idx (.var 0) (.int (1))) (.nil))) (.var 1))) (.cons (.stI 0 1 (.bin .fdiv (.idx (.var 0) (.int (1))) (.var 1))) (.cons (.ret (.var 2)) (.nil))))
def f3 : Fn := ⟨2, 5, b3⟩
/-- _law_chances -/
def s8 : Src := ⟨⟨("_law_chances", none), "_law_chances", "_law_chances", defArgs (top 59), defBody (top 59), defScope (top 59), [], []⟩, ["_law_stream_here", "_law_many", "_law_rows", "_law_left", "_law_k", "_law_n"], ["_law_stream_here", "_law_many"]⟩
def b8 : Ss := .cons (.own 2 (.lst (.nil))) (.cons (.set 3 (.int (60))) (.cons (.for_ (.nm 4) (.rng1 (.bin .sub (.var 1) (.int (1)))) (.cons (.set 5 (.bin .add (.int (1)) (.call 3 (.cons (.var 0) (.cons (.bin .add (.bin .add (.bin .sub (.var 3) (.var 1)) (.int (1))) (.var 4)) (.nil)))))) (.cons (.app 2 (.call 12 (.cons (.var 5) (.cons (.int (60)) (.nil))))) (.cons (.set 3 (.bin .sub (.var 3) (.var 5))) (.nil))))) (.cons (.ret (.bin .add (.bor 2) (.lst (.cons (.call 12 (.cons (.var 3) (.cons (.int (60)) (.nil)))) (.nil))))) (.nil))))
def f8 : Fn := ⟨2, 6, b8⟩
/-- _law_low -/
def s12 : Src := ⟨⟨("_law_low", none), "_law_low", "_law_low", defArgs (top 57), defBody (top 57), defScope (top 57), [], []⟩, ["_law_n", "_law_d", "_law_shared"], ["_law_n", "_law_d"]⟩
def b12 : Ss := .cons (.set 2 (.call 20 (.cons (.var 0) (.cons (.var 1) (.nil))))) (.cons (.ife (.cmp .lt (.var 1) (.int (0))) (.cons (.set 2 (.bin .sub (.int (0)) (.var 2))) (.nil)) (.nil)) (.cons (.ret (.tup (.cons (.bin .fdiv (.var 0) (.var 2)) (.cons (.bin .fdiv (.var 1) (.var 2)) (.nil))))) (.nil)))
def f12 : Fn := ⟨2, 3, b12⟩
/-- is_index -/
def s14 : Src := ⟨⟨("is_index", none), "is_index", "is_index", defArgs (top 24), defBody (top 24), defScope (top 24), [], []⟩, ["value", "many"], ["value", "many"]⟩
def b14 : Ss := .cons (.ret (.and (.call 22 (.cons (.var 0) (.nil))) (.one (.chn .le .lt (.int (0)) (.var 0) (.var 1))))) (.nil)
def f14 : Fn := ⟨2, 2, b14⟩
/-- plus -/
def s16 : Src := ⟨⟨("plus", none), "plus", "plus", defArgs (top 11), defBody (top 11), defScope (top 11), [], []⟩, ["a", "b"], ["a", "b"]⟩
def b16 : Ss := .cons (.ret (.call 24 (.cons (.bin .add (.bin .mul (.idx (.var 0) (.int (0))) (.idx (.var 1) (.int (1)))) (.bin .mul (.idx (.var 0) (.int (1))) (.idx (.var 1) (.int (0))))) (.cons (.bin .mul (.idx (.var 0) (.int (1))) (.idx (.var 1) (.int (1)))) (.nil))))) (.nil)
def f16 : Fn := ⟨2, 2, b16⟩
/-- _law_symbol -/
def s19 : Src := ⟨⟨("_law_symbol", none), "_law_symbol", "_law_symbol", defArgs (top 60), defBody (top 60), defScope (top 60), [], []⟩, ["_law_stream_here", "_law_many", "_law_letters"], ["_law_stream_here", "_law_many", "_law_letters"]⟩
def b19 : Ss := .cons (.ife (.cmp .lt (.call 3 (.cons (.var 0) (.cons (.int (5)) (.nil)))) (.int (2))) (.cons (.ret (.call 3 (.cons (.var 0) (.cons (.var 1) (.nil))))) (.nil)) (.nil)) (.cons (.ret (.idx (.str [97, 122, 109]) (.call 3 (.cons (.var 0) (.cons (.var 2) (.nil)))))) (.nil))
def f19 : Fn := ⟨3, 3, b19⟩
/-- _law_gcd -/
def s20 : Src := ⟨⟨("_law_gcd", none), "_law_gcd", "_law_gcd", defArgs (top 56), defBody (top 56), defScope (top 56), [], []⟩, ["_law_a", "_law_b", "_law_k"], ["_law_a", "_law_b"]⟩
def b20 : Ss := .cons (.set 0 (.bi .abs (.cons (.var 0) (.nil)))) (.cons (.set 1 (.bi .abs (.cons (.var 1) (.nil)))) (.cons (.for_ (.nm 2) (.rng1 (.int (40000))) (.cons (.ife (.cmp .eq (.var 1) (.int (0))) (.cons (.brk) (.nil)) (.nil)) (.cons (.par 0 1 (.var 1) (.bin .mod (.bi .int (.cons (.var 0) (.nil))) (.var 1))) (.nil)))) (.cons (.ret (.var 0)) (.nil))))
def f20 : Fn := ⟨2, 3, b20⟩
/-- is_integer_graphs -/
def s22 : Src := ⟨⟨("is_integer_graphs", none), "is_integer", "is_integer", defArgs (top 22), defBody (top 22), defScope (top 22), [], []⟩, ["value"], ["value"]⟩
def b22 : Ss := .cons (.ret (.and (.isi .int (.var 0)) (.one (.not (.isi .bool (.var 0)))))) (.nil)
def f22 : Fn := ⟨1, 1, b22⟩
/-- is_letter -/
def s23 : Src := ⟨⟨("is_letter", none), "is_letter", "is_letter", defArgs (top 45), defBody (top 45), defScope (top 45), [], []⟩, ["symbol"], ["symbol"]⟩
def b23 : Ss := .cons (.ret (.and (.isi .str (.var 0)) (.and (.cmp .eq (.bi .len (.cons (.var 0) (.nil))) (.int (1))) (.one (.cmp .inn (.var 0) (.glo 3)))))) (.nil)
def f23 : Fn := ⟨1, 1, b23⟩
/-- reduced -/
def s24 : Src := ⟨⟨("reduced", none), "reduced", "reduced", defArgs (top 10), defBody (top 10), defScope (top 10), [], []⟩, ["n", "d", "common"], ["n", "d"]⟩
def b24 : Ss := .cons (.set 2 (.bi .gcd (.cons (.var 0) (.cons (.var 1) (.nil))))) (.cons (.ret (.tup (.cons (.bin .fdiv (.var 0) (.var 2)) (.cons (.bin .fdiv (.var 1) (.var 2)) (.nil))))) (.nil))
def f24 : Fn := ⟨2, 3, b24⟩
/-- check_grammar -/
def s25 : Src := ⟨⟨("check_grammar", none), "check_grammar", "check_grammar", defArgs (top 49), defBody (top 49), defScope (top 49), [], []⟩, ["grammar"], ["grammar"]⟩
def b25 : Ss := .cons (.ife (.not (.call 26 (.cons (.var 0) (.nil)))) (.cons (.raise 0 (.cons (.str [103, 114, 97, 109, 109, 97, 114]) (.nil))) (.nil)) (.nil)) (.nil)
def f25 : Fn := ⟨1, 1, b25⟩
/-- is_grammar -/
def s26 : Src := ⟨⟨("is_grammar", none), "is_grammar", "is_grammar", defArgs (top 48), defBody (top 48), defScope (top 48), [], []⟩, ["value", "symbols", "rules", "rule"], ["value"]⟩
def b26 : Ss := .cons (.ife (.or (.not (.isi .tuple (.var 0))) (.one (.not (.chn .le .le (.int (1)) (.bi .len (.cons (.var 0) (.nil))) (.glo 4))))) (.cons (.ret (.bl false)) (.nil)) (.nil)) (.cons (.ife (.not (.bi .all (.cons (.comp (.nm 2) (.seq (.var 0)) (.call 27 (.cons (.var 2) (.cons (.bi .len (.cons (.var 0) (.nil))) (.nil))))) (.nil)))) (.cons (.ret (.bl false)) (.nil)) (.nil)) (.cons (.ife (.cmp .gt (.bi .sum (.cons (.comp (.nm 2) (.seq (.var 0)) (.bi .len (.cons (.var 2) (.nil)))) (.nil))) (.glo 5)) (.cons (.ret (.bl false)) (.nil)) (.nil)) (.cons (.set 1 (.comp2 (.nm 2) (.seq (.var 0)) (.nm 3) (.seq (.var 2)) (.bi .len (.cons (.idx (.var 3) (.int (1))) (.nil))))) (.cons (.ret (.cmp .le (.bin .add (.bin .mul (.int (2)) (.bi .len (.cons (.var 0) (.nil)))) (.bi .sum (.cons (.var 1) (.nil)))) (.glo 6))) (.nil)))))
def f26 : Fn := ⟨1, 4, b26⟩
/-- is_rules -/
def s27 : Src := ⟨⟨("is_rules", none), "is_rules", "is_rules", defArgs (top 47), defBody (top 47), defScope (top 47), [], []⟩, ["rules", "many", "total", "chance", "symbols", "rule"], ["rules", "many"]⟩
def b27 : Ss := .cons (.ife (.or (.not (.isi .tuple (.var 0))) (.one (.not (.chn .le .le (.int (1)) (.bi .len (.cons (.var 0) (.nil))) (.glo 7))))) (.cons (.ret (.bl false)) (.nil)) (.nil)) (.cons (.ife (.not (.bi .all (.cons (.comp (.nm 5) (.seq (.var 0)) (.call 28 (.cons (.var 5) (.cons (.var 1) (.nil))))) (.nil)))) (.cons (.ret (.bl false)) (.nil)) (.nil)) (.cons (.set 2 (.glo 1)) (.cons (.for_ (.tp (.cons (.nm 3) (.cons (.nm 4) (.nil)))) (.seq (.var 0)) (.cons (.set 2 (.call 16 (.cons (.var 2) (.cons (.var 3) (.nil))))) (.nil))) (.cons (.ret (.and (.cmp .eq (.var 2) (.glo 2)) (.one (.cmp .le (.bi .sum (.cons (.comp (.tp (.cons (.nm 3) (.cons (.nm 4) (.nil)))) (.seq (.var 0)) (.bi .len (.cons (.var 4) (.nil)))) (.nil))) (.glo 8))))) (.nil)))))
def f27 : Fn := ⟨2, 6, b27⟩
/-- is_rule -/
def s28 : Src := ⟨⟨("is_rule", none), "is_rule", "is_rule", defArgs (top 46), defBody (top 46), defScope (top 46), [], []⟩, ["rule", "many", "symbol"], ["rule", "many"]⟩
def b28 : Ss := .cons (.ife (.or (.not (.isi .tuple (.var 0))) (.or (.cmp .ne (.bi .len (.cons (.var 0) (.nil))) (.int (2))) (.one (.not (.call 29 (.cons (.idx (.var 0) (.int (0))) (.nil))))))) (.cons (.ret (.bl false)) (.nil)) (.nil)) (.cons (.ife (.or (.not (.isi .tuple (.idx (.var 0) (.int (1))))) (.one (.cmp .gt (.bi .len (.cons (.idx (.var 0) (.int (1))) (.nil))) (.glo 9)))) (.cons (.ret (.bl false)) (.nil)) (.nil)) (.cons (.ret (.bi .all (.cons (.comp (.nm 2) (.seq (.idx (.var 0) (.int (1)))) (.or (.call 23 (.cons (.var 2) (.nil))) (.one (.call 14 (.cons (.var 2) (.cons (.var 1) (.nil))))))) (.nil)))) (.nil)))
def f28 : Fn := ⟨2, 3, b28⟩
/-- is_chance -/
def s29 : Src := ⟨⟨("is_chance", none), "is_chance", "is_chance", defArgs (top 26), defBody (top 26), defScope (top 26), [], []⟩, ["value"], ["value"]⟩
def b29 : Ss := .cons (.ret (.and (.call 30 (.cons (.var 0) (.nil))) (.and (.cmp .gt (.idx (.var 0) (.int (0))) (.int (0))) (.one (.cmp .le (.idx (.var 0) (.int (1))) (.glo 10)))))) (.nil)
def f29 : Fn := ⟨1, 1, b29⟩
/-- is_rational -/
def s30 : Src := ⟨⟨("is_rational", none), "is_rational", "is_rational", defArgs (top 9), defBody (top 9), defScope (top 9), [], []⟩, ["x", "n", "d"], ["x"]⟩
def b30 : Ss := .cons (.ife (.or (.not (.isi .tuple (.var 0))) (.one (.cmp .ne (.bi .len (.cons (.var 0) (.nil))) (.int (2))))) (.cons (.ret (.bl false)) (.nil)) (.nil)) (.cons (.tset (.tp (.cons (.nm 1) (.cons (.nm 2) (.nil)))) (.var 0)) (.cons (.ret (.and (.call 31 (.cons (.var 1) (.nil))) (.and (.call 31 (.cons (.var 2) (.nil))) (.and (.cmp .gt (.var 2) (.int (0))) (.one (.cmp .eq (.bi .gcd (.cons (.var 1) (.cons (.var 2) (.nil)))) (.int (1)))))))) (.nil)))
def f30 : Fn := ⟨1, 3, b30⟩
/-- is_integer_rationals -/
def s31 : Src := ⟨⟨("is_integer_rationals", none), "is_integer", "is_integer", defArgs (top 7), defBody (top 7), defScope (top 7), [], []⟩, ["x"], ["x"]⟩
def b31 : Ss := .cons (.ret (.and (.isi .int (.var 0)) (.one (.not (.isi .bool (.var 0)))))) (.nil)
def f31 : Fn := ⟨1, 1, b31⟩
/-- _law_any_grammar -/
def s32 : Src := ⟨⟨("_law_any_grammar", none), "_law_any_grammar", "_law_any_grammar", defArgs (top 61), defBody (top 61), defScope (top 61), [], []⟩, ["_law_stream_here", "_law_many", "_law_grammar", "_law_k", "_law_rules", "_law_chance", "_law_at"], ["_law_stream_here"]⟩
def b32 : Ss := .cons (.set 1 (.bin .add (.int (1)) (.call 3 (.cons (.var 0) (.cons (.int (3)) (.nil)))))) (.cons (.own 2 (.lst (.nil))) (.cons (.for_ (.nm 3) (.rng1 (.var 1)) (.cons (.own 4 (.lst (.nil))) (.cons (.for_ (.nm 5) (.seq (.call 8 (.cons (.var 0) (.cons (.bin .add (.int (1)) (.call 3 (.cons (.var 0) (.cons (.int (3)) (.nil))))) (.nil))))) (.cons (.app 4 (.tup (.cons (.var 5) (.cons (.bi .tuple (.cons (.comp (.nm 6) (.rng1 (.call 3 (.cons (.var 0) (.cons (.int (4)) (.nil))))) (.call 19 (.cons (.var 0) (.cons (.var 1) (.cons (.int (3)) (.nil)))))) (.nil))) (.nil))))) (.nil))) (.cons (.app 2 (.bi .tuple (.cons (.bor 4) (.nil)))) (.nil))))) (.cons (.ret (.bi .tuple (.cons (.bor 2) (.nil)))) (.nil))))
def f32 : Fn := ⟨1, 7, b32⟩
/-- graph_of_grammar -/
def s37 : Src := ⟨⟨("graph_of_grammar", none), "graph_of_grammar", "graph_of_grammar", defArgs (top 51), defBody (top 51), defScope (top 51), [], []⟩, ["grammar", "rules"], ["grammar"]⟩
def b37 : Ss := .cons (.ex (.call 25 (.cons (.var 0) (.nil)))) (.cons (.ret (.makeK 0 41 (.cons (.bi .tuple (.cons (.comp (.nm 1) (.seq (.var 0)) (.tup (.cons (.int (1)) (.cons (.call 42 (.cons (.var 1) (.nil))) (.nil))))) (.nil))) (.nil)))) (.nil))
def f37 : Fn := ⟨1, 2, b37⟩
/-- Graph.__init__ -/
def s41 : Src := ⟨⟨("Graph", some "__init__"), "__init__", "Graph.__init__", defArgs (inC (top 34) 0), defBody (inC (top 34) 0), defScope (inC (top 34) 0), [], []⟩, ["self", "procedures"], ["self", "procedures"]⟩
def b41 : Ss := .cons (.ex (.call 51 (.cons (.var 1) (.nil)))) (.cons (.setA 0 0 0 (.var 1)) (.nil))
def f41 : Fn := ⟨2, 2, b41⟩
/-- symbol_points -/
def s42 : Src := ⟨⟨("symbol_points", none), "symbol_points", "symbol_points", defArgs (top 50), defBody (top 50), defScope (top 50), [], []⟩, ["rules", "last", "branches", "points", "at", "chance", "symbols", "k", "symbol", "after"], ["rules"]⟩
def b42 : Ss := .cons (.set 1 (.bin .add (.int (1)) (.bi .sum (.cons (.comp (.tp (.cons (.nm 5) (.cons (.nm 6) (.nil)))) (.seq (.var 0)) (.bi .len (.cons (.var 6) (.nil)))) (.nil))))) (.cons (.own 2 (.lst (.nil))) (.cons (.own 3 (.lst (.nil))) (.cons (.set 4 (.int (1))) (.cons (.for_ (.tp (.cons (.nm 5) (.cons (.nm 6) (.nil)))) (.seq (.var 0)) (.cons (.app 2 (.tup (.cons (.var 5) (.cons (.ite (.cmp .gt (.bi .len (.cons (.var 6) (.nil))) (.int (0))) (.var 4) (.var 1)) (.nil))))) (.cons (.for_ (.tp (.cons (.nm 7) (.cons (.nm 8) (.nil)))) (.enum (.var 6)) (.cons (.set 9 (.ite (.cmp .lt (.bin .add (.var 7) (.int (1))) (.bi .len (.cons (.var 6) (.nil)))) (.bin .add (.var 4) (.int (1))) (.var 1))) (.cons (.app 3 (.ite (.call 23 (.cons (.var 8) (.nil))) (.tup (.cons (.str [114, 101, 119, 97, 114, 100]) (.cons (.glo 2) (.cons (.var 9) (.nil))))) (.tup (.cons (.str [99, 97, 108, 108]) (.cons (.var 8) (.cons (.tup (.cons (.var 9) (.nil))) (.nil))))))) (.cons (.set 4 (.bin .add (.var 4) (.int (1)))) (.nil))))) (.nil)))) (.cons (.ret (.bin .add (.bin .add (.tup (.cons (.tup (.cons (.str [100, 114, 97, 119]) (.cons (.bi .tuple (.cons (.bor 2) (.nil))) (.nil)))) (.nil))) (.bi .tuple (.cons (.bor 3) (.nil)))) (.tup (.cons (.tup (.cons (.str [101, 120, 105, 116]) (.cons (.int (0)) (.nil)))) (.nil))))) (.nil))))))
def f42 : Fn := ⟨1, 10, b42⟩
/-- check_procedures -/
def s51 : Src := ⟨⟨("check_procedures", none), "check_procedures", "check_procedures", defArgs (top 32), defBody (top 32), defScope (top 32), [], []⟩, ["procedures", "at", "procedure", "i", "point", "problem"], ["procedures"]⟩
def b51 : Ss := .cons (.ife (.not (.isi .tuple (.var 0))) (.cons (.raise 1 (.cons (.tup (.nil)) (.cons (.str [102, 111, 114, 109]) (.nil)))) (.nil)) (.nil)) (.cons (.ife (.not (.chn .le .le (.int (1)) (.bi .len (.cons (.var 0) (.nil))) (.glo 11))) (.cons (.raise 1 (.cons (.tup (.nil)) (.cons (.str [109, 97, 110, 121]) (.nil)))) (.nil)) (.nil)) (.cons (.for_ (.tp (.cons (.nm 1) (.cons (.nm 2) (.nil)))) (.enum (.var 0)) (.cons (.ex (.call 57 (.cons (.var 1) (.cons (.var 2) (.nil))))) (.nil))) (.cons (.ife (.cmp .gt (.bi .sum (.cons (.comp (.nm 2) (.seq (.var 0)) (.bi .len (.cons (.idx (.var 2) (.int (1))) (.nil)))) (.nil))) (.glo 12)) (.cons (.raise 1 (.cons (.tup (.nil)) (.cons (.str [109, 97, 110, 121]) (.nil)))) (.nil)) (.nil)) (.cons (.for_ (.tp (.cons (.nm 1) (.cons (.nm 2) (.nil)))) (.enum (.var 0)) (.cons (.for_ (.tp (.cons (.nm 3) (.cons (.nm 4) (.nil)))) (.enum (.idx (.var 2) (.int (1)))) (.cons (.set 5 (.call 58 (.cons (.var 0) (.cons (.var 2) (.cons (.var 4) (.nil)))))) (.cons (.ife (.isN true (.var 5)) (.cons (.raise 1 (.cons (.tup (.cons (.var 1) (.cons (.var 3) (.nil)))) (.cons (.var 5) (.nil)))) (.nil)) (.nil)) (.nil)))) (.nil))) (.nil)))))
def f51 : Fn := ⟨1, 6, b51⟩
/-- check_procedure -/
def s57 : Src := ⟨⟨("check_procedure", none), "check_procedure", "check_procedure", defArgs (top 31), defBody (top 31), defScope (top 31), [], []⟩, ["at", "procedure"], ["at", "procedure"]⟩
def b57 : Ss := .cons (.ife (.or (.not (.isi .tuple (.var 1))) (.one (.cmp .ne (.bi .len (.cons (.var 1) (.nil))) (.int (2))))) (.cons (.raise 1 (.cons (.tup (.cons (.var 0) (.nil))) (.cons (.str [102, 111, 114, 109]) (.nil)))) (.nil)) (.nil)) (.cons (.ife (.or (.not (.call 22 (.cons (.idx (.var 1) (.int (0))) (.nil)))) (.one (.not (.isi .tuple (.idx (.var 1) (.int (1))))))) (.cons (.raise 1 (.cons (.tup (.cons (.var 0) (.nil))) (.cons (.str [102, 111, 114, 109]) (.nil)))) (.nil)) (.nil)) (.cons (.ife (.not (.chn .le .le (.int (0)) (.idx (.var 1) (.int (0))) (.glo 13))) (.cons (.raise 1 (.cons (.tup (.cons (.var 0) (.nil))) (.cons (.str [101, 120, 105, 116, 115]) (.nil)))) (.nil)) (.nil)) (.cons (.ife (.not (.chn .le .le (.int (1)) (.bi .len (.cons (.idx (.var 1) (.int (1))) (.nil))) (.glo 14))) (.cons (.raise 1 (.cons (.tup (.cons (.var 0) (.nil))) (.cons (.str [112, 111, 105, 110, 116, 115]) (.nil)))) (.nil)) (.nil)) (.nil))))
def f57 : Fn := ⟨2, 2, b57⟩
/-- point_problem -/
def s58 : Src := ⟨⟨("point_problem", none), "point_problem", "point_problem", defArgs (top 30), defBody (top 30), defScope (top 30), [], []⟩, ["procedures", "procedure", "point", "many", "word"], ["procedures", "procedure", "point"]⟩
def b58 : Ss := .cons (.set 3 (.bi .len (.cons (.idx (.var 1) (.int (1))) (.nil)))) (.cons (.ife (.not (.call 60 (.cons (.var 2) (.nil)))) (.cons (.ret (.str [102, 111, 114, 109])) (.nil)) (.nil)) (.cons (.set 4 (.idx (.var 2) (.int (0)))) (.cons (.ife (.cmp .eq (.var 4) (.str [101, 120, 105, 116])) (.cons (.ret (.ite (.call 14 (.cons (.idx (.var 2) (.int (1))) (.cons (.idx (.var 1) (.int (0))) (.nil)))) (.non) (.str [101, 120, 105, 116]))) (.nil)) (.nil)) (.cons (.ife (.cmp .eq (.var 4) (.str [100, 114, 97, 119])) (.cons (.ret (.call 61 (.cons (.idx (.var 2) (.int (1))) (.cons (.var 3) (.nil))))) (.nil)) (.nil)) (.cons (.ife (.cmp .eq (.var 4) (.str [99, 104, 111, 111, 115, 101])) (.cons (.ret (.ite (.chn .le .le (.int (1)) (.bi .len (.cons (.idx (.var 2) (.int (1))) (.nil))) (.glo 15)) (.call 62 (.cons (.idx (.var 2) (.int (1))) (.cons (.var 3) (.nil)))) (.str [98, 114, 97, 110, 99, 104, 101, 115]))) (.nil)) (.nil)) (.cons (.ife (.cmp .eq (.var 4) (.str [99, 97, 108, 108])) (.cons (.ife (.not (.call 14 (.cons (.idx (.var 2) (.int (1))) (.cons (.bi .len (.cons (.var 0) (.nil))) (.nil))))) (.cons (.ret (.str [112, 114, 111, 99, 101, 100, 117, 114, 101])) (.nil)) (.nil)) (.cons (.ife (.cmp .ne (.bi .len (.cons (.idx (.var 2) (.int (2))) (.nil))) (.idx (.idx (.var 0) (.idx (.var 2) (.int (1)))) (.int (0)))) (.cons (.ret (.str [98, 114, 97, 110, 99, 104, 101, 115])) (.nil)) (.nil)) (.cons (.ret (.call 62 (.cons (.idx (.var 2) (.int (2))) (.cons (.var 3) (.nil))))) (.nil)))) (.nil)) (.cons (.ife (.cmp .eq (.var 4) (.str [114, 101, 119, 97, 114, 100])) (.cons (.ret (.ite (.call 63 (.cons (.idx (.var 2) (.int (1))) (.nil))) (.call 62 (.cons (.tup (.cons (.idx (.var 2) (.int (2))) (.nil))) (.cons (.var 3) (.nil)))) (.str [97, 109, 111, 117, 110, 116]))) (.nil)) (.nil)) (.cons (.ret (.non)) (.nil)))))))))
def f58 : Fn := ⟨3, 5, b58⟩
/-- has_form -/
def s60 : Src := ⟨⟨("has_form", none), "has_form", "has_form", defArgs (top 25), defBody (top 25), defScope (top 25), [], []⟩, ["point", "one"], ["point"]⟩
def b60 : Ss := .cons (.ife (.or (.not (.isi .tuple (.var 0))) (.or (.cmp .eq (.bi .len (.cons (.var 0) (.nil))) (.int (0))) (.one (.not (.isi .str (.idx (.var 0) (.int (0)))))))) (.cons (.ret (.bl false)) (.nil)) (.nil)) (.cons (.ife (.cmp .ne (.bi .len (.cons (.var 0) (.nil))) (.kget 0 [([101, 120, 105, 116], 2), ([100, 114, 97, 119], 2), ([99, 104, 111, 111, 115, 101], 2), ([99, 97, 108, 108], 3), ([114, 101, 119, 97, 114, 100], 3), ([114, 101, 106, 101, 99, 116], 1), ([115, 116, 111, 112], 1)] (.idx (.var 0) (.int (0))) (.int (0)))) (.cons (.ret (.bl false)) (.nil)) (.nil)) (.cons (.ife (.cmp .eq (.idx (.var 0) (.int (0))) (.str [101, 120, 105, 116])) (.cons (.ret (.call 22 (.cons (.idx (.var 0) (.int (1))) (.nil)))) (.nil)) (.nil)) (.cons (.ife (.cmp .eq (.idx (.var 0) (.int (0))) (.str [100, 114, 97, 119])) (.cons (.ret (.and (.isi .tuple (.idx (.var 0) (.int (1)))) (.one (.bi .all (.cons (.comp (.nm 1) (.seq (.idx (.var 0) (.int (1)))) (.and (.isi .tuple (.var 1)) (.one (.cmp .eq (.bi .len (.cons (.var 1) (.nil))) (.int (2)))))) (.nil)))))) (.nil)) (.nil)) (.cons (.ife (.cmp .eq (.idx (.var 0) (.int (0))) (.str [99, 104, 111, 111, 115, 101])) (.cons (.ret (.isi .tuple (.idx (.var 0) (.int (1))))) (.nil)) (.nil)) (.cons (.ife (.cmp .eq (.idx (.var 0) (.int (0))) (.str [99, 97, 108, 108])) (.cons (.ret (.and (.call 22 (.cons (.idx (.var 0) (.int (1))) (.nil))) (.one (.isi .tuple (.idx (.var 0) (.int (2))))))) (.nil)) (.nil)) (.cons (.ret (.bl true)) (.nil)))))))
def f60 : Fn := ⟨1, 2, b60⟩
/-- draw_problem -/
def s61 : Src := ⟨⟨("draw_problem", none), "draw_problem", "draw_problem", defArgs (top 28), defBody (top 28), defScope (top 28), [], []⟩, ["branches", "many", "total", "chance", "point"], ["branches", "many"]⟩
def b61 : Ss := .cons (.ife (.not (.chn .le .le (.int (1)) (.bi .len (.cons (.var 0) (.nil))) (.glo 15))) (.cons (.ret (.str [98, 114, 97, 110, 99, 104, 101, 115])) (.nil)) (.nil)) (.cons (.set 2 (.tup (.cons (.int (0)) (.cons (.int (1)) (.nil))))) (.cons (.for_ (.tp (.cons (.nm 3) (.cons (.nm 4) (.nil)))) (.seq (.var 0)) (.cons (.ife (.not (.call 29 (.cons (.var 3) (.nil)))) (.cons (.ret (.str [99, 104, 97, 110, 99, 101])) (.nil)) (.nil)) (.cons (.ife (.not (.call 14 (.cons (.var 4) (.cons (.var 1) (.nil))))) (.cons (.ret (.str [112, 111, 105, 110, 116])) (.nil)) (.nil)) (.cons (.set 2 (.call 16 (.cons (.var 2) (.cons (.var 3) (.nil))))) (.nil))))) (.cons (.ret (.ite (.cmp .eq (.var 2) (.tup (.cons (.int (1)) (.cons (.int (1)) (.nil))))) (.non) (.str [115, 117, 109]))) (.nil))))
def f61 : Fn := ⟨2, 5, b61⟩
/-- points_problem -/
def s62 : Src := ⟨⟨("points_problem", none), "points_problem", "points_problem", defArgs (top 29), defBody (top 29), defScope (top 29), [], []⟩, ["points", "many", "point"], ["points", "many"]⟩
def b62 : Ss := .cons (.ife (.bi .all (.cons (.comp (.nm 2) (.seq (.var 0)) (.call 14 (.cons (.var 2) (.cons (.var 1) (.nil))))) (.nil))) (.cons (.ret (.non)) (.nil)) (.nil)) (.cons (.ret (.str [112, 111, 105, 110, 116])) (.nil))
def f62 : Fn := ⟨2, 3, b62⟩
/-- is_amount -/
def s63 : Src := ⟨⟨("is_amount", none), "is_amount", "is_amount", defArgs (top 27), defBody (top 27), defScope (top 27), [], []⟩, ["value"], ["value"]⟩
def b63 : Ss := .cons (.ret (.and (.call 30 (.cons (.var 0) (.nil))) (.and (.chn .le .le (.int (0)) (.idx (.var 0) (.int (0))) (.glo 16)) (.one (.cmp .le (.idx (.var 0) (.int (1))) (.glo 17)))))) (.nil)
def f63 : Fn := ⟨1, 1, b63⟩
/-- _law_graph -/
def s64 : Src := ⟨⟨("_law_graph", none), "_law_graph", "_law_graph", defArgs (top 62), defBody (top 62), defScope (top 62), [], []⟩, ["_law_grammar", "_law_procedures", "_law_rules", "_law_last", "_law_branches", "_law_points", "_law_chance", "_law_symbols", "_law_first", "_law_k", "_law_symbol_here", "_law_after"], ["_law_grammar"]⟩
def b64 : Ss := .cons (.own 1 (.lst (.nil))) (.cons (.for_ (.nm 2) (.seq (.var 0)) (.cons (.set 3 (.bin .add (.int (1)) (.bi .sum (.cons (.comp (.tp (.cons (.nm 6) (.cons (.nm 7) (.nil)))) (.seq (.var 2)) (.bi .len (.cons (.var 7) (.nil)))) (.nil))))) (.cons (.own 4 (.lst (.nil))) (.cons (.own 5 (.lst (.nil))) (.cons (.for_ (.tp (.cons (.nm 6) (.cons (.nm 7) (.nil)))) (.seq (.var 2)) (.cons (.set 8 (.bin .add (.int (1)) (.bi .len (.cons (.bor 5) (.nil))))) (.cons (.app 4 (.tup (.cons (.var 6) (.cons (.ite (.var 7) (.var 8) (.var 3)) (.nil))))) (.cons (.for_ (.tp (.cons (.nm 9) (.cons (.nm 10) (.nil)))) (.enum (.var 7)) (.cons (.set 11 (.ite (.cmp .eq (.bin .add (.var 9) (.int (1))) (.bi .len (.cons (.var 7) (.nil)))) (.var 3) (.bin .add (.bin .add (.var 8) (.var 9)) (.int (1))))) (.cons (.app 5 (.ite (.isi .str (.var 10)) (.tup (.cons (.str [114, 101, 119, 97, 114, 100]) (.cons (.tup (.cons (.int (1)) (.cons (.int (1)) (.nil)))) (.cons (.var 11) (.nil))))) (.tup (.cons (.str [99, 97, 108, 108]) (.cons (.var 10) (.cons (.tup (.cons (.var 11) (.nil))) (.nil))))))) (.nil)))) (.nil))))) (.cons (.app 1 (.tup (.cons (.int (1)) (.cons (.bin .add (.bin .add (.tup (.cons (.tup (.cons (.str [100, 114, 97, 119]) (.cons (.bi .tuple (.cons (.bor 4) (.nil))) (.nil)))) (.nil))) (.bi .tuple (.cons (.bor 5) (.nil)))) (.tup (.cons (.tup (.cons (.str [101, 120, 105, 116]) (.cons (.int (0)) (.nil)))) (.nil)))) (.nil))))) (.nil))))))) (.cons (.ret (.bi .tuple (.cons (.bor 1) (.nil)))) (.nil)))
def f64 : Fn := ⟨1, 12, b64⟩
/-- _law_equal -/
def s65 : Src := ⟨⟨("_law_equal", none), "_law_equal", "_law_equal", defArgs (top 58), defBody (top 58), defScope (top 58), [], []⟩, ["_law_actual", "_law_due", "_law_at"], ["_law_actual", "_law_due"]⟩
def b65 : Ss := .cons (.ife (.isN false (.var 1)) (.cons (.ret (.isN false (.var 0))) (.nil)) (.nil)) (.cons (.ife (.isi .bool (.var 1)) (.cons (.ret (.and (.isi .bool (.var 0)) (.one (.cmp .eq (.var 0) (.var 1))))) (.nil)) (.nil)) (.cons (.ife (.isi .int (.var 1)) (.cons (.ret (.and (.call 68 (.cons (.var 0) (.nil))) (.one (.cmp .eq (.var 0) (.var 1))))) (.nil)) (.nil)) (.cons (.ife (.isi .str (.var 1)) (.cons (.ret (.and (.isi .str (.var 0)) (.one (.cmp .eq (.var 0) (.var 1))))) (.nil)) (.nil)) (.cons (.ife (.and (.isi .tuple (.var 1)) (.one (.not (.isi .tuple (.var 0))))) (.cons (.ret (.bl false)) (.nil)) (.nil)) (.cons (.ife (.and (.isi .list (.var 1)) (.one (.not (.isi .list (.var 0))))) (.cons (.ret (.bl false)) (.nil)) (.nil)) (.cons (.ife (.cmp .ne (.bi .len (.cons (.var 0) (.nil))) (.bi .len (.cons (.var 1) (.nil)))) (.cons (.ret (.bl false)) (.nil)) (.nil)) (.cons (.ret (.bi .all (.cons (.comp (.nm 2) (.rng1 (.bi .len (.cons (.var 1) (.nil)))) (.call 65 (.cons (.idx (.var 0) (.var 2)) (.cons (.idx (.var 1) (.var 2)) (.nil))))) (.nil)))) (.nil))))))))
def f65 : Fn := ⟨2, 3, b65⟩
/-- Graph.reached -/
def s66 : Src := ⟨⟨("Graph", some "reached"), "reached", "Graph.reached", defArgs (inC (top 34) 8), defBody (inC (top 34) 8), defScope (inC (top 34) 8), [], []⟩, ["self", "place", "found", "at", "other"], ["self", "place"]⟩
def b66 : Ss := .cons (.ex (.meth 0 69 (.var 0) (.cons (.var 1) (.nil)))) (.cons (.own 2 (.lst (.cons (.var 1) (.nil)))) (.cons (.set 3 (.int (0))) (.cons (.whl (.cmp .lt (.var 3) (.bi .len (.cons (.bor 2) (.nil)))) (.cons (.ext 2 (.compI (.nm 4) (.seq (.meth 0 70 (.var 0) (.cons (.idx (.bor 2) (.var 3)) (.nil)))) (.cmp .nin (.var 4) (.bor 2)) (.var 4))) (.cons (.set 3 (.bin .add (.var 3) (.int (1)))) (.nil)))) (.cons (.ret (.srt (.bor 2))) (.nil)))))
def f66 : Fn := ⟨2, 5, b66⟩
/-- _law_variables -/
def s67 : Src := ⟨⟨("_law_variables", none), "_law_variables", "_law_variables", defArgs (top 63), defBody (top 63), defScope (top 63), [], []⟩, ["_law_grammar", "_law_found", "_law_k", "_law_chance", "_law_symbols", "_law_symbol_here"], ["_law_grammar"]⟩
def b67 : Ss := .cons (.own 1 (.lst (.cons (.int (0)) (.nil)))) (.cons (.for_ (.nm 2) (.rng1 (.bi .len (.cons (.var 0) (.nil)))) (.cons (.ife (.cmp .lt (.var 2) (.bi .len (.cons (.bor 1) (.nil)))) (.cons (.for_ (.tp (.cons (.nm 3) (.cons (.nm 4) (.nil)))) (.seq (.idx (.var 0) (.idx (.bor 1) (.var 2)))) (.cons (.for_ (.nm 5) (.seq (.var 4)) (.cons (.ife (.and (.not (.isi .str (.var 5))) (.one (.cmp .nin (.var 5) (.bor 1)))) (.cons (.app 1 (.var 5)) (.nil)) (.nil)) (.nil))) (.nil))) (.nil)) (.nil)) (.nil))) (.cons (.ret (.srt (.bor 1))) (.nil)))
def f67 : Fn := ⟨1, 6, b67⟩
/-- _law_is_integer -/
def s68 : Src := ⟨⟨("_law_is_integer", none), "_law_is_integer", "_law_is_integer", defArgs (top 55), defBody (top 55), defScope (top 55), [], []⟩, ["_law_actual"], ["_law_actual"]⟩
def b68 : Ss := .cons (.ret (.and (.isi .int (.var 0)) (.one (.not (.isi .bool (.var 0)))))) (.nil)
def f68 : Fn := ⟨1, 1, b68⟩
/-- Graph.check_place -/
def s69 : Src := ⟨⟨("Graph", some "check_place"), "check_place", "Graph.check_place", defArgs (inC (top 34) 4), defBody (inC (top 34) 4), defScope (inC (top 34) 4), [], []⟩, ["self", "place"], ["self", "place"]⟩
def b69 : Ss := .cons (.ife (.not (.meth 0 71 (.var 0) (.cons (.var 1) (.nil)))) (.cons (.raise 0 (.cons (.str [112, 108, 97, 99, 101]) (.nil))) (.nil)) (.nil)) (.nil)
def f69 : Fn := ⟨2, 2, b69⟩
/-- Graph.named -/
def s70 : Src := ⟨⟨("Graph", some "named"), "named", "Graph.named", defArgs (inC (top 34) 7), defBody (inC (top 34) 7), defScope (inC (top 34) 7), [], []⟩, ["self", "place", "point", "found", "i", "other"], ["self", "place"]⟩
def b70 : Ss := .cons (.set 2 (.meth 0 72 (.var 0) (.cons (.var 1) (.nil)))) (.cons (.own 3 (.comp (.nm 4) (.seq (.call 73 (.cons (.var 2) (.nil)))) (.ktt (.cons (.idx (.var 1) (.int (0))) (.cons (.var 4) (.nil)))))) (.cons (.ife (.cmp .eq (.idx (.var 2) (.int (0))) (.str [99, 97, 108, 108])) (.cons (.app 3 (.ktt (.cons (.idx (.var 2) (.int (1))) (.cons (.int (0)) (.nil))))) (.nil)) (.nil)) (.cons (.ret (.compI (.nm 5) (.seq (.meth 0 74 (.var 0) (.nil))) (.cmp .inn (.var 5) (.bor 3)) (.var 5))) (.nil))))
def f70 : Fn := ⟨2, 6, b70⟩
/-- Graph.is_place -/
def s71 : Src := ⟨⟨("Graph", some "is_place"), "is_place", "Graph.is_place", defArgs (inC (top 34) 3), defBody (inC (top 34) 3), defScope (inC (top 34) 3), [], []⟩, ["self", "value"], ["self", "value"]⟩
def b71 : Ss := .cons (.ife (.or (.not (.isi .tuple (.var 1))) (.or (.cmp .ne (.bi .len (.cons (.var 1) (.nil))) (.int (2))) (.one (.not (.call 14 (.cons (.idx (.var 1) (.int (0))) (.cons (.bi .len (.cons (.attr (.var 0) 0 0) (.nil))) (.nil)))))))) (.cons (.ret (.bl false)) (.nil)) (.nil)) (.cons (.ret (.call 14 (.cons (.idx (.var 1) (.int (1))) (.cons (.bi .len (.cons (.idx (.idx (.attr (.var 0) 0 0) (.idx (.var 1) (.int (0)))) (.int (1))) (.nil))) (.nil))))) (.nil))
def f71 : Fn := ⟨2, 2, b71⟩
/-- Graph.point_at -/
def s72 : Src := ⟨⟨("Graph", some "point_at"), "point_at", "Graph.point_at", defArgs (inC (top 34) 5), defBody (inC (top 34) 5), defScope (inC (top 34) 5), [], []⟩, ["self", "place"], ["self", "place"]⟩
def b72 : Ss := .cons (.ex (.meth 0 69 (.var 0) (.cons (.var 1) (.nil)))) (.cons (.ret (.idx (.idx (.idx (.attr (.var 0) 0 0) (.idx (.var 1) (.int (0)))) (.int (1))) (.idx (.var 1) (.int (1))))) (.nil))
def f72 : Fn := ⟨2, 2, b72⟩
/-- points_of -/
def s73 : Src := ⟨⟨("points_of", none), "points_of", "points_of", defArgs (top 33), defBody (top 33), defScope (top 33), [], []⟩, ["point", "branch"], ["point"]⟩
def b73 : Ss := .cons (.ife (.cmp .eq (.idx (.var 0) (.int (0))) (.str [100, 114, 97, 119])) (.cons (.ret (.bi .tuple (.cons (.comp (.nm 1) (.seq (.idx (.var 0) (.int (1)))) (.idx (.var 1) (.int (1)))) (.nil)))) (.nil)) (.nil)) (.cons (.ife (.cmp .eq (.idx (.var 0) (.int (0))) (.str [99, 104, 111, 111, 115, 101])) (.cons (.ret (.idx (.var 0) (.int (1)))) (.nil)) (.nil)) (.cons (.ife (.cmp .inn (.idx (.var 0) (.int (0))) (.tup (.cons (.str [99, 97, 108, 108]) (.cons (.str [114, 101, 119, 97, 114, 100]) (.nil))))) (.cons (.ret (.ite (.cmp .eq (.idx (.var 0) (.int (0))) (.str [99, 97, 108, 108])) (.idx (.var 0) (.int (2))) (.tup (.cons (.idx (.var 0) (.int (2))) (.nil))))) (.nil)) (.nil)) (.cons (.ret (.tup (.nil))) (.nil))))
def f73 : Fn := ⟨1, 2, b73⟩
/-- Graph.places -/
def s74 : Src := ⟨⟨("Graph", some "places"), "places", "Graph.places", defArgs (inC (top 34) 2), defBody (inC (top 34) 2), defScope (inC (top 34) 2), [], []⟩, ["self", "p", "procedure", "i"], ["self"]⟩
def b74 : Ss := .cons (.ret (.comp2 (.tp (.cons (.nm 1) (.cons (.nm 2) (.nil)))) (.enum (.attr (.var 0) 0 0)) (.nm 3) (.rng1 (.bi .len (.cons (.idx (.var 2) (.int (1))) (.nil)))) (.ktt (.cons (.var 1) (.cons (.var 3) (.nil)))))) (.nil)
def f74 : Fn := ⟨1, 4, b74⟩
def x0 : Src := ⟨⟨("BadValue", some "__init__"), "__init__", "BadValue.__init__", defArgs (inC (top 4) 0), defBody (inC (top 4) 0), defScope (inC (top 4) 0), [], []⟩, ["self", "name"], ["self", "name"]⟩
def x1 : Src := ⟨⟨("BadGraph", some "__init__"), "__init__", "BadGraph.__init__", defArgs (inC (top 5) 0), defBody (inC (top 5) 0), defScope (inC (top 5) 0), [], []⟩, ["self", "where", "why"], ["self", "where", "why"]⟩
def L : Law := ⟨[s0, s1, s1, s3, s1, s1, s1, s1, s8, s1, s1, s1, s12, s1, s14, s1, s16, s1, s1, s19, s20, s1, s22, s23, s24, s25, s26, s27, s28, s29, s30, s31, s32, s1, s1, s1, s1, s37, s1, s1, s1, s41, s42, s1, s1, s1, s1, s1, s1, s1, s1, s51, s1, s1, s1, s1, s1, s57, s58, s1, s60, s61, s62, s63, s64, s65, s66, s67, s68, s69, s70, s71, s72, s73, s74], [f0, f1, f1, f3, f1, f1, f1, f1, f8, f1, f1, f1, f12, f1, f14, f1, f16, f1, f1, f19, f20, f1, f22, f23, f24, f25, f26, f27, f28, f29, f30, f31, f32, f1, f1, f1, f1, f37, f1, f1, f1, f41, f42, f1, f1, f1, f1, f1, f1, f1, f1, f51, f1, f1, f1, f1, f1, f57, f58, f1, f60, f61, f62, f63, f64, f65, f66, f67, f68, f69, f70, f71, f72, f73, f74], [("ZERO", .tup [.int (0), .int (1)]), ("ZERO", .tup [.int (0), .int (1)]), ("ONE", .tup [.int (1), .int (1)]), ("LETTERS", .str [97, 98, 99, 100, 101, 102, 103, 104, 105, 106, 107, 108, 109, 110, 111, 112, 113, 114, 115, 116, 117, 118, 119, 120, 121, 122]), ("MOST_VARIABLES", .int (6)), ("MOST_RULES_IN_ALL", .int (12)), ("MOST_POINTS_grammars", .int (40)), ("MOST_RULES", .int (4)), ("MOST_SYMBOLS_OF_ONE", .int (14)), ("MOST_SYMBOLS", .int (4)), ("MOST_DENOMINATOR", .int (60)), ("MOST_PROCEDURES", .int (6)), ("MOST_IN_ALL", .int (40)), ("MOST_EXITS", .int (3)), ("MOST_POINTS_graphs", .int (16)), ("MOST_BRANCHES", .int (4)), ("MOST_AMOUNT", .int (1000)), ("MOST_AMOUNT_DENOMINATOR", .int (12))], ["list", "range", "tuple", "sum", "len", "enumerate", "isinstance", "str", "bool", "int", "all", "sorted", "abs"], true, 200000, ["Graph"], ["procedures"], [(0, 0)], [(0, "reached", 66), (0, "check_place", 69), (0, "named", 70), (0, "is_place", 71), (0, "point_at", 72), (0, "places", 74)], [], [(x0, ["name"]), (x1, ["where", "why"])], [], [], [("LENGTHS", [([101, 120, 105, 116], 2), ([100, 114, 97, 119], 2), ([99, 104, 111, 111, 115, 101], 2), ([99, 97, 108, 108], 3), ([114, 101, 119, 97, 114, 100], 3), ([114, 101, 106, 101, 99, 116], 1), ([115, 116, 111, 112], 1)])], [(0, 41, "procedures")], []⟩
end LW

namespace LW
open PySem PySem.Spec PyProof.Rows L2 EV
def ln0 : List PySem.Str := ["_wall", "OddsError", "BadValue", "BadGraph", "is_integer", "is_integer_rationals", "is_rational", "reduced", "plus", "MOST_PROCEDURES", "MOST_EXITS", "MOST_POINTS_graphs", "MOST_IN_ALL", "MOST_BRANCHES", "MOST_DENOMINATOR", "MOST_AMOUNT", "MOST_AMOUNT_DENOMINATOR", "LENGTHS", "is_integer_graphs", "is_index", "has_form", "is_chance", "is_amount", "draw_problem", "points_problem", "point_problem", "check_procedure", "check_procedures", "points_of", "Graph"]
def ln1 : List PySem.Str := ["LETTERS", "ZERO", "ONE", "MOST_VARIABLES", "MOST_RULES", "MOST_RULES_IN_ALL", "MOST_SYMBOLS", "MOST_SYMBOLS_OF_ONE", "MOST_POINTS_grammars", "is_letter", "is_rule", "is_rules", "is_grammar", "check_grammar", "symbol_points", "graph_of_grammar", "_law_stream", "_law_next", "_law_is_integer", "_law_gcd", "_law_low", "_law_equal", "_law_chances", "_law_symbol", "_law_any_grammar", "_law_graph", "_law_variables"]
def loose : List PySem.Str := ln0 ++ ln1
abbrev Rw : PySem.W.OpenRow := PySem.W.OpenLaw.row PySem.Challenge.rw_oddscall_k73_graphs_of_grammars
abbrev hk : PySem.W.Hook := hookE 4 L
def ob (s : PySem.W.SharedT) : AlE := obE 4 L (HandSHeadRun.getT s)
theorem ob_eq (s : PySem.W.SharedT) : ob s = hk.obs s.abs := obE_eq (HandSHeadRun.getT_eq s)
theorem run_f (w : World) : HandSHeadRun.RunEqI Rw (PySem.W.view Rw.prog [0, 64]) hk ob 20000 loose (w.withFollow "special-get-raises" false) := by
  unfold HandSHeadRun.RunEqI; kernel_rfl
theorem run_t (w : World) : HandSHeadRun.RunEqI Rw (PySem.W.view Rw.prog [0, 64]) hk ob 20000 loose (w.withFollow "special-get-raises" true) := by
  unfold HandSHeadRun.RunEqI; kernel_rfl
theorem run (w : World) : HandSHeadRun.RunEqI Rw (PySem.W.view Rw.prog [0, 64]) hk ob 20000 loose w :=
  PySem.W.byRow2 "special-get-raises" (P := fun w => HandSHeadRun.RunEqI Rw (PySem.W.view Rw.prog [0, 64]) hk ob 20000 loose w) run_f run_t w
end LW

namespace EV
/-! plain laws of the evaluator -/
theorem callF_eq {T : Tab} {k f : Nat} {ds : List D} {z : Sto} {fd : Fn} (h : T.fns[f]? = some fd) (hl : ds.length = fd.np) :
    callF T (k + 1) f ds z = runS (evSs ⟨callF T k, T.con, T.W⟩ fd.body (ds.map (fun d => some (Slot.val d)) ++ List.replicate (fd.nn - fd.np) none) z) := by
  show (match T.fns[f]? with
    | none => (.err : Res D)
    | some fd => if ds.length = fd.np then runS (evSs ⟨callF T k, T.con, T.W⟩ fd.body (ds.map (fun d => some (Slot.val d)) ++ List.replicate (fd.nn - fd.np) none) z) else .err) = _
  rw [h]
  exact if_pos hl
/-- a def that leaves the store as it is -/
def Pure (T : Tab) (k f : Nat) (ds : List D) (d : D) : Prop := ∀ z, callF T k f ds z = .ok d z
theorem trim_self {d : D} {cs : List Cell} : trim cs.length d cs = cs := by
  unfold trim
  split
  · exact List.take_length
  · rfl
theorem trim_eq {d : D} {cs cs' : List Cell} (h : cs'.length = cs.length) : trim cs.length d cs' = cs' := by
  rw [← h]; exact trim_self
theorem callE_pure {cl : Sto → Res D} {ds : List D} {d : D} {z : Sto} (h : ∀ z, cl z = .ok d z) : callE cl false ds z = .ok d z := by
  unfold callE
  simp only [h, Bool.false_eq_true, if_false]
  split
  · simp [trim_self]
  · split
    · simp [trim_self]
    · rfl
/-- a call with the stream -/
theorem callE_strm {cl : Sto → Res D} {ds : List D} {z : Sto} (hn : D.noss ds = false) : callE cl false ds z = cl z := by
  unfold callE
  simp [hn]
/-- a call, in a store without a stream -/
theorem callE_none {cl : Sto → Res D} {ds : List D} {d : D} {cs cs' : List Cell} (hn : D.noss ds = true) (h : cl ⟨none, cs⟩ = .ok d ⟨none, cs'⟩) : callE cl false ds ⟨none, cs⟩ = .ok d ⟨none, trim cs.length d cs'⟩ := by
  unfold callE
  simp [h, hn]
/-- a call that gets nothing of the stream -/
theorem callE_hide {cl : Sto → Res D} {ds : List D} {d : D} {z : Sto} {cs' : List Cell} (hn : D.noss ds = true) (hc : z.cs.all Cell.nos = true) (h : cl ⟨none, z.cs⟩ = .ok d ⟨none, cs'⟩) : callE cl false ds z = .ok d ⟨z.st, trim z.cs.length d cs'⟩ := by
  cases z with
  | mk st cs =>
    cases st with
    | none => exact callE_none hn h
    | some t =>
      unfold callE
      rw [hn, hc, h]
      simp
theorem run_nx {Z : Cxt} {s : S} {ss : Ss} {σ σ' : Sg} {z z' : Sto} {r : Res Fl} (h : evS Z s σ z = .ok (.nx σ') z') (h2 : evSs Z ss σ' z' = r) : evSs Z (.cons s ss) σ z = r := by
  unfold evSs
  rw [h]
  exact h2
theorem run_rt {Z : Cxt} {s : S} {ss : Ss} {σ : Sg} {d : D} {z z' : Sto} (h : evS Z s σ z = .ok (.rt d) z') : evSs Z (.cons s ss) σ z = .ok (.rt d) z' := by
  unfold evSs
  rw [h]
  rfl
theorem run_same {Z : Cxt} {s : S} {ss : Ss} {σ : Sg} {z : Sto} {r : Res Fl} (h : evS Z s σ z = .ok (.nx σ) z) (h2 : evSs Z ss σ z = r) : evSs Z (.cons s ss) σ z = r := run_nx h h2
theorem evS_ret {Z : Cxt} {c : C} {σ : Sg} {z z' : Sto} {d : D} (h : evE Z c σ z = .ok d z') : evS Z (.ret c) σ z = .ok (.rt d) z' := by
  unfold evS
  rw [h]
  rfl
theorem evS_set {Z : Cxt} {i : Nat} {c : C} {σ : Sg} {z z' : Sto} {d : D} (h : evE Z c σ z = .ok d z') : evS Z (.set i c) σ z = .ok (.nx (σ.set i (some (.val d)))) z' := by
  unfold evS
  rw [h]
  rfl
theorem evS_own {Z : Cxt} {i : Nat} {c : C} {σ : Sg} {z z' : Sto} {ds : List D} (h : evE Z c σ z = .ok (.lst ds) z') : evS Z (.own i c) σ z = .ok (.nx (σ.set i (some (.own ds)))) z' := by
  unfold evS
  rw [h]
  rfl
theorem evS_if {Z : Cxt} {c : C} {a b : Ss} {σ : Sg} {z z' : Sto} {d : D} {k : Bool} (h : evE Z c σ z = .ok d z') (ht : truD d = some k) : evS Z (.ife c a b) σ z = (match k with
    | true => evSs Z a σ z'
    | false => evSs Z b σ z') := by
  unfold evS
  rw [h]
  simp only [bS_ok, ht, lift_some]
  cases k <;> rfl
theorem evE_bi1 {Z : Cxt} {b : Bi} {c : C} {σ : Sg} {z z' : Sto} {d x : D} (h : evE Z c σ z = .ok d z') (hb : biD b [d] = some x) : evE Z (.bi b (.cons c .nil)) σ z = .ok x z' := by
  unfold evE evEs
  rw [h]
  show lift (biD b [d]) z' = _
  rw [hb]
  rfl
theorem run_end {Z : Cxt} {σ : Sg} {z : Sto} : evSs Z .nil σ z = .ok (.nx σ) z := rfl
theorem pure_of {T : Tab} {k f : Nat} {ds : List D} {d : D} {fd : Fn} (h : T.fns[f]? = some fd) (hl : ds.length = fd.np) (r : ∀ z, evSs ⟨callF T k, T.con, T.W⟩ fd.body (ds.map (fun d => some (Slot.val d)) ++ List.replicate (fd.nn - fd.np) none) z = .ok (.rt d) z) : Pure T (k + 1) f ds d := by
  intro z
  rw [callF_eq h hl, r z]
  rfl
theorem run_for {Z : Cxt} {t : Tg} {it : I} {b : Ss} {σ : Sg} {z z' : Sto} {iv : Iv} {r : Res Fl} (h : evI Z it σ z = .ok iv z') (h2 : forI (fun d σ z => match asgT t d σ with
      | some σ => evSs Z b σ z
      | none => .err) iv σ z' = r) : evS Z (.for_ t it b) σ z = r := by
  unfold evS
  rw [h]
  exact h2
/-! ### rationals -/
def R (q : Rat) : D := .tup [.int q.num, .int (q.den : Int)]
def timesB (fl : Nat) : Ss := .cons (.ret (.call fl (.cons (.bin .mul (.idx (.var 0) (.int (0))) (.idx (.var 1) (.int (0)))) (.cons (.bin .mul (.idx (.var 0) (.int (1))) (.idx (.var 1) (.int (1)))) (.nil))))) (.nil)
/-- the code of low, of reduced, by what it answers: n/d in lowest terms -/
def LowOk (T : Tab) (k fl : Nat) : Prop := ∀ (n : Int) (d : Nat), d ≠ 0 → d.log2 < 8000 → Pure T k fl [.int n, .int (d : Int)] (R (mkRat n d))
theorem times_ok {T : Tab} {k f fl : Nat} {a b : Rat} (hf : T.fns[f]? = some ⟨2, 2, timesB fl⟩) (low : LowOk T k fl) (h1 : a.num.natAbs.log2 + b.num.natAbs.log2 < 1000000) (h2 : (a.den * b.den).log2 < 8000) (h3 : a.den.log2 + b.den.log2 < 1000000) : Pure T (k + 1) f [R a, R b] (R (a * b)) := by
  intro z
  have l := low (a.num * b.num) (a.den * b.den) (Nat.mul_ne_zero a.den_nz b.den_nz) h2
  have l' : ∀ z, callF T k fl [.int (a.num * b.num), .int ((a.den : Int) * (b.den : Int))] z = .ok (R (mkRat (a.num * b.num) (a.den * b.den))) z := fun z => by
    have := l z
    rw [Int.natCast_mul] at this
    exact this
  rw [callF_eq hf rfl, Rat.mul_def']
  have e1 : (R a) = .tup [.int a.num, .int (a.den : Int)] := rfl
  have e2 : (R b) = .tup [.int b.num, .int (b.den : Int)] := rfl
  rw [e1, e2]
  simp [timesB, evSs, evS, evE, evEs, hasBor, isBor, idxD, L2.atI, L2.ixN, binD, h1, h3, callE_pure l', runS, outD]
end EV

namespace EV
def reducedB : Ss := .cons (.set 2 (.bi .gcd (.cons (.var 0) (.cons (.var 1) (.nil))))) (.cons (.ret (.tup (.cons (.bin .fdiv (.var 0) (.var 2)) (.cons (.bin .fdiv (.var 1) (.var 2)) (.nil))))) (.nil))
theorem mkRat_R {n : Int} {d : Nat} (h : d ≠ 0) : R (mkRat n d) = .tup [.int (n.fdiv (Nat.gcd n.natAbs d : Nat)), .int ((d : Int).fdiv (Nat.gcd n.natAbs d : Nat))] := by
  have e := (Rat.normalize_eq_mkRat (num := n) h).symm.trans (Rat.normalize_eq h)
  unfold R
  rw [show (mkRat n d).num = n / n.natAbs.gcd d from congrArg Rat.num e, show (mkRat n d).den = d / n.natAbs.gcd d from congrArg Rat.den e]
  rw [Int.fdiv_eq_ediv_of_nonneg _ (Int.natCast_nonneg _), Int.fdiv_eq_ediv_of_nonneg _ (Int.natCast_nonneg _), Int.natCast_ediv]
theorem gcd_cond {g d : Nat} (hg : g ≠ 0) (hle : g ≤ d) (hd : d.log2 < 8000) : ((g : Int) ≠ 0 ∧ ((g : Int).natAbs < 1073741824 ∨ (0 < (g : Int) ∧ (g : Int).natAbs.log2 < 9000))) := by
  refine ⟨by omega, .inr ⟨by omega, ?_⟩⟩
  have h1 : (g : Int).natAbs = g := Int.natAbs_natCast g
  rw [h1]
  have : g.log2 ≤ d.log2 := by
    by_cases e : g = 0
    · exact absurd e hg
    · have : 2 ^ g.log2 ≤ d := Nat.le_trans (Nat.log2_self_le e) hle
      exact (Nat.le_log2 (by omega)).mpr this
  omega
theorem binD_add {i j : Int} : binD .add (.int i) (.int j) = some (.int (i + j)) := rfl
theorem binD_sub {i j : Int} : binD .sub (.int i) (.int j) = some (.int (i - j)) := rfl
theorem binD_mul {i j : Int} (h : i.natAbs.log2 + j.natAbs.log2 < 1000000) : binD .mul (.int i) (.int j) = some (.int (i * j)) := if_pos h
theorem binD_fdiv {i j : Int} (h : j ≠ 0 ∧ (j.natAbs < 1073741824 ∨ (0 < j ∧ j.natAbs.log2 < 9000))) : binD .fdiv (.int i) (.int j) = some (.int (i.fdiv j)) := if_pos h
theorem binD_mod {i j : Int} (h : j ≠ 0) : binD .mod (.int i) (.int j) = some (.int (i.fmod j)) := if_pos h
theorem biD_gcd {i j : Int} : biD .gcd [.int i, .int j] = some (.int (Nat.gcd i.natAbs j.natAbs : Nat)) := rfl
theorem reduced_ok {T : Tab} {k f : Nat} (hf : T.fns[f]? = some ⟨2, 3, reducedB⟩) : LowOk T (k + 1) f := by
  intro n d hd hl z
  have hg : Nat.gcd n.natAbs d ≠ 0 := Nat.gcd_ne_zero_right hd
  have hle : Nat.gcd n.natAbs d ≤ d := Nat.le_of_dvd (Nat.pos_of_ne_zero hd) (Nat.gcd_dvd_right _ _)
  have c := gcd_cond hg hle hl
  rw [callF_eq hf rfl, mkRat_R hd]
  simp [reducedB, evSs, evS, evE, evEs, hasBor, isBor, biD_gcd, binD_fdiv c, runS, outD]
/-! ### the law's gcd -/
def lgcdB : Ss := .cons (.set 0 (.bi .abs (.cons (.var 0) (.nil)))) (.cons (.set 1 (.bi .abs (.cons (.var 1) (.nil)))) (.cons (.for_ (.nm 2) (.rng1 (.int (40000))) (.cons (.ife (.cmp .eq (.var 1) (.int (0))) (.cons (.brk) (.nil)) (.nil)) (.cons (.par 0 1 (.var 1) (.bin .mod (.bi .int (.cons (.var 0) (.nil))) (.var 1))) (.nil)))) (.cons (.ret (.var 0)) (.nil))))
def lgcdF (Z : Cxt) : D → Sg → Sto → Res Fl := fun d σ z => match asgT (.nm 2) d σ with
  | some σ => evSs Z (.cons (.ife (.cmp .eq (.var 1) (.int (0))) (.cons (.brk) (.nil)) (.nil)) (.cons (.par 0 1 (.var 1) (.bin .mod (.bi .int (.cons (.var 0) (.nil))) (.var 1))) (.nil))) σ z
  | none => .err
theorem lgcdF_zero {Z : Cxt} {x i : Int} {s : Option Slot} {z : Sto} : lgcdF Z (.int i) [some (.val (.int x)), some (.val (.int 0)), s] z = .ok (.bk [some (.val (.int x)), some (.val (.int 0)), some (.val (.int i))]) z := by
  simp [lgcdF, asgT, evSs, evS, evE, cmpD, eqD, D.pln, D.dep, D.eqv, truD]
theorem lgcdF_step {Z : Cxt} {x y : Nat} {i : Int} {s : Option Slot} {z : Sto} (hy : y ≠ 0) : lgcdF Z (.int i) [some (.val (.int (x : Nat))), some (.val (.int (y : Nat))), s] z = .ok (.nx [some (.val (.int (y : Nat))), some (.val (.int ((x % y : Nat) : Int))), some (.val (.int i))]) z := by
  have hy' : (y : Int) ≠ 0 := by omega
  have e : (x : Int).fmod (y : Int) = ((x % y : Nat) : Int) := by
    rw [Int.fmod_eq_emod_of_nonneg _ (Int.natCast_nonneg _)]; rfl
  have hb : ((y : Int) == 0) = false := by rw [beq_eq_false_iff_ne]; exact hy'
  simp only [lgcdF, asgT, evSs, evS, evE, evEs, List.set_cons_succ, List.set_cons_zero, List.getElem?_cons_succ, List.getElem?_cons_zero, Res.bind_ok, bS_ok, lift_some, cmpD, eqD, D.pln, D.dep, D.eqv, Nat.min_self, Nat.zero_le, decide_true, Bool.and_true, Bool.and_self, if_true, hb, truD, biD, binD_mod hy', e]
theorem lgcd_loop {Z : Cxt} {z : Sto} : ∀ (m x y n : Nat) (lo : Int) (s : Option Slot), y < x → x < 2 ^ m → 2 * m ≤ n →
    ∃ s1 s2, forR (lgcdF Z) lo n [some (.val (.int (x : Nat))), some (.val (.int (y : Nat))), s] z = .ok (.nx [some (.val (.int (Nat.gcd x y : Nat))), s1, s2]) z := by
  intro m
  induction m with
  | zero => intro x y n lo s h1 h2; omega
  | succ m ih =>
    intro x y n lo s h1 h2 h3
    obtain ⟨n, rfl⟩ : ∃ n', n = n' + 2 := ⟨n - 2, by omega⟩
    by_cases hy : y = 0
    · subst hy
      refine ⟨some (.val (.int 0)), some (.val (.int lo)), ?_⟩
      show (lgcdF Z (.int lo) [some (.val (.int (x : Nat))), some (.val (.int ((0 : Nat) : Int))), s] z).bind _ = _
      rw [show ((0 : Nat) : Int) = 0 from rfl, lgcdF_zero, Nat.gcd_zero_right]
      rfl
    · have hm : x % y < y := Nat.mod_lt _ (Nat.pos_of_ne_zero hy)
      have e1 : forR (lgcdF Z) lo (n + 2) [some (.val (.int (x : Nat))), some (.val (.int (y : Nat))), s] z = forR (lgcdF Z) (lo + 1) (n + 1) [some (.val (.int (y : Nat))), some (.val (.int ((x % y : Nat) : Int))), some (.val (.int lo))] z := by
        show (lgcdF Z (.int lo) _ z).bind _ = _
        rw [lgcdF_step hy]
        rfl
      have g1 : Nat.gcd x y = Nat.gcd y (x % y) := by rw [Nat.gcd_comm y, ← Nat.gcd_rec, Nat.gcd_comm]
      rw [e1, g1]
      by_cases hlt : y < 2 ^ m
      · exact ih y (x % y) (n + 1) _ _ hm hlt (by omega)
      · have hxm : x % y < 2 ^ m := by
          rw [Nat.mod_eq_sub_mod (by omega), Nat.mod_eq_of_lt (by rw [Nat.pow_succ] at h2; omega)]
          rw [Nat.pow_succ] at h2
          omega
        by_cases hz : x % y = 0
        · rw [hz, Nat.gcd_zero_right]
          refine ⟨some (.val (.int 0)), some (.val (.int (lo + 1))), ?_⟩
          show (lgcdF Z (.int (lo + 1)) [some (.val (.int (y : Nat))), some (.val (.int ((0 : Nat) : Int))), _] z).bind _ = _
          rw [show ((0 : Nat) : Int) = 0 from rfl, lgcdF_zero]
          rfl
        · have e2 : forR (lgcdF Z) (lo + 1) (n + 1) [some (.val (.int (y : Nat))), some (.val (.int ((x % y : Nat) : Int))), some (.val (.int lo))] z = forR (lgcdF Z) (lo + 1 + 1) n [some (.val (.int ((x % y : Nat) : Int))), some (.val (.int ((y % (x % y) : Nat) : Int))), some (.val (.int (lo + 1)))] z := by
            show (lgcdF Z (.int (lo + 1)) _ z).bind _ = _
            rw [lgcdF_step hz]
            rfl
          have g2 : Nat.gcd y (x % y) = Nat.gcd (x % y) (y % (x % y)) := by rw [Nat.gcd_comm (x % y), ← Nat.gcd_rec, Nat.gcd_comm]
          rw [e2, g2]
          exact ih (x % y) (y % (x % y)) n _ _ (Nat.mod_lt _ (Nat.pos_of_ne_zero hz)) hxm (by omega)
theorem forR_succ (f : D → Sg → Sto → Res Fl) (lo : Int) (n : Nat) (σ : Sg) (z : Sto) : forR f lo (n + 1) σ z = (f (.int lo) σ z).bind fun fl z => match fl with
    | .nx σ => forR f (lo + 1) n σ z
    | .ct σ => forR f (lo + 1) n σ z
    | .bk σ => .ok (.nx σ) z
    | fl => .ok fl z := rfl
theorem lgcd_all {Z : Cxt} {z : Sto} (m x y N : Nat) (s : Option Slot) (hy : y < 2 ^ m) (hN : 2 * m + 1 ≤ N) :
    ∃ s1 s2, forR (lgcdF Z) 0 N [some (.val (.int (x : Nat))), some (.val (.int (y : Nat))), s] z = .ok (.nx [some (.val (.int (Nat.gcd x y : Nat))), s1, s2]) z := by
  obtain ⟨N, rfl⟩ : ∃ N', N = N' + 1 := ⟨N - 1, by omega⟩
  rw [forR_succ]
  by_cases hz : y = 0
  · subst hz
    refine ⟨some (.val (.int 0)), some (.val (.int 0)), ?_⟩
    rw [show ((0 : Nat) : Int) = 0 from rfl, lgcdF_zero, Nat.gcd_zero_right]
    rfl
  · have g1 : Nat.gcd x y = Nat.gcd y (x % y) := by rw [Nat.gcd_comm y, ← Nat.gcd_rec, Nat.gcd_comm]
    rw [lgcdF_step hz, g1]
    exact lgcd_loop m y (x % y) N (0 + 1) _ (Nat.mod_lt _ (Nat.pos_of_ne_zero hz)) hy (by omega)
theorem lgcd_ok {T : Tab} {k f : Nat} (hf : T.fns[f]? = some ⟨2, 3, lgcdB⟩) (n d : Int) (hd : d.natAbs.log2 < 9000) : Pure T (k + 1) f [.int n, .int d] (.int (Nat.gcd n.natAbs d.natAbs : Nat)) := by
  refine pure_of hf rfl fun z => ?_
  have ab : ∀ i : Int, (if i < 0 then -i else i) = (i.natAbs : Int) := fun i => by split <;> omega
  obtain ⟨s1, s2, main⟩ := lgcd_all (Z := ⟨callF T k, T.con, T.W⟩) (z := z) (d.natAbs.log2 + 1) n.natAbs d.natAbs 40000 none Nat.lt_log2_self (by omega)
  have e0 : evS ⟨callF T k, T.con, T.W⟩ (.set 0 (.bi .abs (.cons (.var 0) (.nil)))) [some (.val (.int n)), some (.val (.int d)), none] z = .ok (.nx [some (.val (.int (n.natAbs : Nat))), some (.val (.int d)), none]) z := by
    rw [← ab]; rfl
  have e1 : evS ⟨callF T k, T.con, T.W⟩ (.set 1 (.bi .abs (.cons (.var 1) (.nil)))) [some (.val (.int (n.natAbs : Nat))), some (.val (.int d)), none] z = .ok (.nx [some (.val (.int (n.natAbs : Nat))), some (.val (.int (d.natAbs : Nat))), none]) z := by
    rw [← ab d]; rfl
  have it : evI ⟨callF T k, T.con, T.W⟩ (.rng1 (.int (40000))) [some (.val (.int (n.natAbs : Nat))), some (.val (.int (d.natAbs : Nat))), none] z = .ok (.r 0 40000) z := by
    simp [evI, evE]
  exact run_nx e0 (run_nx e1 (run_nx (run_for it main) (run_rt rfl)))
end EV

namespace EV
def llowB (fg : Nat) : Ss := .cons (.set 2 (.call fg (.cons (.var 0) (.cons (.var 1) (.nil))))) (.cons (.ife (.cmp .lt (.var 1) (.int (0))) (.cons (.set 2 (.bin .sub (.int (0)) (.var 2))) (.nil)) (.nil)) (.cons (.ret (.tup (.cons (.bin .fdiv (.var 0) (.var 2)) (.cons (.bin .fdiv (.var 1) (.var 2)) (.nil))))) (.nil)))
theorem llow_ok {T : Tab} {k f fg : Nat} (hf : T.fns[f]? = some ⟨2, 3, llowB fg⟩) (hg : T.fns[fg]? = some ⟨2, 3, lgcdB⟩) : LowOk T (k + 2) f := by
  intro n d hd hl
  have hg0 : Nat.gcd n.natAbs d ≠ 0 := Nat.gcd_ne_zero_right hd
  have hle : Nat.gcd n.natAbs d ≤ d := Nat.le_of_dvd (Nat.pos_of_ne_zero hd) (Nat.gcd_dvd_right _ _)
  have c := gcd_cond hg0 hle hl
  have g := lgcd_ok (k := k) hg n (d : Int) (by rw [Int.natAbs_natCast]; omega)
  rw [Int.natAbs_natCast] at g
  have hn : ¬ ((d : Int) < 0) := by omega
  refine pure_of hf rfl fun z => ?_
  rw [mkRat_R hd]
  simp [llowB, evSs, evS, evE, evEs, hasBor, isBor, callE_pure g, cmpD, truD, hn, binD_fdiv c]
/-- a sum's code: (a0*b1 + a1*b0, a1*b1) in lowest terms, its products in either order -/
def plusB (fl : Nat) : Ss := .cons (.ret (.call fl (.cons (.bin .add (.bin .mul (.idx (.var 0) (.int (0))) (.idx (.var 1) (.int (1)))) (.bin .mul (.idx (.var 0) (.int (1))) (.idx (.var 1) (.int (0))))) (.cons (.bin .mul (.idx (.var 0) (.int (1))) (.idx (.var 1) (.int (1)))) (.nil))))) (.nil)
def lplusB (fl : Nat) : Ss := .cons (.ret (.call fl (.cons (.bin .add (.bin .mul (.idx (.var 0) (.int (0))) (.idx (.var 1) (.int (1)))) (.bin .mul (.idx (.var 1) (.int (0))) (.idx (.var 0) (.int (1))))) (.cons (.bin .mul (.idx (.var 0) (.int (1))) (.idx (.var 1) (.int (1)))) (.nil))))) (.nil)
/-- a rational that is small enough -/
structure Sm (q : Rat) : Prop where
  n : q.num.natAbs.log2 < 400000
  d : q.den.log2 < 3900
theorem log2_mul_lt {a b m n : Nat} (h1 : a.log2 < m) (h2 : b.log2 < n) : (a * b).log2 < m + n := by
  by_cases ha : a = 0
  · subst ha; simp; omega
  by_cases hb : b = 0
  · subst hb; simp; omega
  have e1 : a < 2 ^ m := Nat.lt_of_lt_of_le Nat.lt_log2_self (Nat.pow_le_pow_right (by decide) h1)
  have e2 : b < 2 ^ n := Nat.lt_of_lt_of_le Nat.lt_log2_self (Nat.pow_le_pow_right (by decide) h2)
  have : a * b < 2 ^ (m + n) := by rw [Nat.pow_add]; exact Nat.mul_lt_mul'' e1 e2
  exact (Nat.log2_lt (Nat.mul_ne_zero ha hb)).mpr this
theorem Sm.dd {a b : Rat} (ha : Sm a) (hb : Sm b) : (a.den * b.den).log2 < 8000 := Nat.lt_trans (log2_mul_lt ha.d hb.d) (by decide)
theorem times_sm {T : Tab} {k f fl : Nat} {a b : Rat} (hf : T.fns[f]? = some ⟨2, 2, timesB fl⟩) (low : LowOk T k fl) (ha : Sm a) (hb : Sm b) : Pure T (k + 1) f [R a, R b] (R (a * b)) :=
  times_ok hf low (by have := ha.n; have := hb.n; omega) (ha.dd hb) (by have := ha.d; have := hb.d; omega)
theorem plus_sm {T : Tab} {k f fl : Nat} {a b : Rat} (hf : T.fns[f]? = some ⟨2, 2, plusB fl⟩) (low : LowOk T k fl) (ha : Sm a) (hb : Sm b) : Pure T (k + 1) f [R a, R b] (R (a + b)) := by
  have l := low (a.num * b.den + b.num * a.den) (a.den * b.den) (Nat.mul_ne_zero a.den_nz b.den_nz) (ha.dd hb)
  have l' : ∀ z, callF T k fl [.int (a.num * b.den + a.den * b.num), .int ((a.den : Int) * (b.den : Int))] z = .ok (R (mkRat (a.num * b.den + b.num * a.den) (a.den * b.den))) z := fun z => by
    have := l z
    rw [Int.natCast_mul] at this
    rw [Int.mul_comm (a.den : Int) b.num]
    exact this
  have c1 : a.num.natAbs.log2 + (b.den : Int).natAbs.log2 < 1000000 := by rw [Int.natAbs_natCast]; have := ha.n; have := hb.d; omega
  have c2 : (a.den : Int).natAbs.log2 + b.num.natAbs.log2 < 1000000 := by rw [Int.natAbs_natCast]; have := hb.n; have := ha.d; omega
  have c3 : (a.den : Int).natAbs.log2 + (b.den : Int).natAbs.log2 < 1000000 := by rw [Int.natAbs_natCast, Int.natAbs_natCast]; have := hb.d; have := ha.d; omega
  refine pure_of hf rfl fun z => ?_
  rw [Rat.add_def']
  have e1 : (R a) = .tup [.int a.num, .int (a.den : Int)] := rfl
  have e2 : (R b) = .tup [.int b.num, .int (b.den : Int)] := rfl
  rw [e1, e2]
  simp [plusB, evSs, evS, evE, evEs, hasBor, isBor, idxD, L2.atI, L2.ixN, binD_mul c1, binD_mul c2, binD_mul c3, binD_add, callE_pure l']
theorem lplus_sm {T : Tab} {k f fl : Nat} {a b : Rat} (hf : T.fns[f]? = some ⟨2, 2, lplusB fl⟩) (low : LowOk T k fl) (ha : Sm a) (hb : Sm b) : Pure T (k + 1) f [R a, R b] (R (a + b)) := by
  have l := low (a.num * b.den + b.num * a.den) (a.den * b.den) (Nat.mul_ne_zero a.den_nz b.den_nz) (ha.dd hb)
  have l' : ∀ z, callF T k fl [.int (a.num * b.den + b.num * a.den), .int ((a.den : Int) * (b.den : Int))] z = .ok (R (mkRat (a.num * b.den + b.num * a.den) (a.den * b.den))) z := fun z => by
    have := l z
    rw [Int.natCast_mul] at this
    exact this
  have c1 : a.num.natAbs.log2 + (b.den : Int).natAbs.log2 < 1000000 := by rw [Int.natAbs_natCast]; have := ha.n; have := hb.d; omega
  have c2 : b.num.natAbs.log2 + (a.den : Int).natAbs.log2 < 1000000 := by rw [Int.natAbs_natCast]; have := hb.n; have := ha.d; omega
  have c3 : (a.den : Int).natAbs.log2 + (b.den : Int).natAbs.log2 < 1000000 := by rw [Int.natAbs_natCast, Int.natAbs_natCast]; have := hb.d; have := ha.d; omega
  refine pure_of hf rfl fun z => ?_
  rw [Rat.add_def']
  have e1 : (R a) = .tup [.int a.num, .int (a.den : Int)] := rfl
  have e2 : (R b) = .tup [.int b.num, .int (b.den : Int)] := rfl
  rw [e1, e2]
  simp [lplusB, evSs, evS, evE, evEs, hasBor, isBor, idxD, L2.atI, L2.ixN, binD_mul c1, binD_mul c2, binD_mul c3, binD_add, callE_pure l']
/-! ### the stream -/
def nextB : Ss := .cons (.ife (.cmp .eq (.idx (.var 0) (.int (1))) (.int (0))) (.cons (.set 3 (.idx (.var 0) (.int (2)))) (.cons (.set 4 (.bin .add (.int (7)) (.var 3))) (.cons (.ife (.cmp .lt (.var 3) (.bi .len (.cons (.idx (.var 0) (.int (0))) (.nil)))) (.cons (.set 4 (.bi .abs (.cons (.idx (.idx (.var 0) (.int (0))) (.var 3)) (.nil)))) (.nil)) (.nil)) (.cons (.ife (.cmp .lt (.var 4) (.bin .pow (.int (10)) (.int (18)))) (.cons (.set 4 (.bin .mod (.bi .int (.cons (.bin .add (.bin .add (.bin .mul (.var 4) (.int (48271))) (.bin .mul (.var 3) (.int (69621)))) (.int (11))) (.nil))) (.int (2147483647)))) (.cons (.set 4 (.bin .add (.bin .mul (.bin .mod (.bi .int (.cons (.bin .add (.bin .mul (.var 4) (.int (16807))) (.int (13))) (.nil))) (.int (2147483647))) (.int (65537))) (.var 4))) (.nil))) (.nil)) (.cons (.stI 0 1 (.var 4)) (.cons (.stI 0 2 (.bin .add (.var 3) (.int (1)))) (.nil))))))) (.nil)) (.cons (.set 2 (.bin .mod (.bi .int (.cons (.idx (.var 0) (.int (1))) (.nil))) (.var 1))) (.cons (.stI 0 1 (.bin .fdiv (.idx (.var 0) (.int (1))) (.var 1))) (.cons (.ret (.var 2)) (.nil))))
/-- a store that holds a stream, of which at most m cells are gone -/
def Stm (m : Nat) (z : Sto) : Prop := ∃ xs c n, z = ⟨some (xs, c, n), []⟩ ∧ 0 ≤ n ∧ n ≤ (m : Int)
theorem Stm.le {m m' : Nat} {z : Sto} (h : Stm m z) (e : m ≤ m') : Stm m' z := by
  obtain ⟨xs, c, n, h1, h2, h3⟩ := h
  exact ⟨xs, c, n, h1, h2, by omega⟩
theorem small_log {i : Int} (h0 : 0 ≤ i) (h : i < 2 ^ 64) : i.natAbs.log2 < 64 := by
  by_cases e : i.natAbs = 0
  · rw [e]; decide
  · exact (Nat.log2_lt e).mpr (by omega)
theorem fmod_rng {i j : Int} (hj : 0 < j) : 0 ≤ i.fmod j ∧ i.fmod j < j := ⟨Int.fmod_nonneg_of_pos i hj, Int.fmod_lt_of_pos i hj⟩
theorem cell_read {Z : Cxt} {many : D} {xs : List Int} {c n : Int} (h0 : 0 ≤ n) : ∃ cell : Int, 0 ≤ cell ∧ evS Z (.ife (.cmp .lt (.var 3) (.bi .len (.cons (.idx (.var 0) (.int (0))) (.nil)))) (.cons (.set 4 (.bi .abs (.cons (.idx (.idx (.var 0) (.int (0))) (.var 3)) (.nil)))) (.nil)) (.nil)) [some (.val .strm), some (.val many), none, some (.val (.int n)), some (.val (.int (7 + n)))] ⟨some (xs, c, n), []⟩ = .ok (.nx [some (.val .strm), some (.val many), none, some (.val (.int n)), some (.val (.int cell))]) ⟨some (xs, c, n), []⟩ := by
  by_cases hl : n < (xs.length : Int)
  · obtain ⟨v, hv⟩ : ∃ v, xs[n.toNat]? = some v := ⟨xs[n.toNat]'(by omega), List.getElem?_eq_getElem (by omega)⟩
    refine ⟨(v.natAbs : Int), by omega, ?_⟩
    have ab : (if v < 0 then -v else v) = (v.natAbs : Int) := by split <;> omega
    simp [evSs, evS, evE, evEs, hasBor, isBor, idxD, binD_add, cmpD, truD, biD, lenD, hl, L2.atI, L2.ixN, h0, hv]
    rw [(List.getElem?_eq_some_iff.mp hv).2]
    exact ab
  · refine ⟨7 + n, by omega, ?_⟩
    simp [evSs, evS, evE, evEs, hasBor, isBor, idxD, binD_add, cmpD, truD, biD, lenD, hl]
theorem log_lt {i : Int} {b : Nat} (h0 : 0 ≤ i) (h : i < 2 ^ b) (hb : 0 < b) : i.natAbs.log2 < b := by
  by_cases e : i.natAbs = 0
  · rw [e]; simpa using hb
  · refine (Nat.log2_lt e).mpr ?_
    have h1 : (i.natAbs : Int) = i := by omega
    have h2 : ((2 ^ b : Nat) : Int) = 2 ^ b := by simp
    omega
theorem cell_mix {Z : Cxt} {many : D} {n cell : Int} {z : Sto} (h0 : 0 ≤ n) (hn : n < 2 ^ 41) (hc : 0 ≤ cell) : ∃ cell2 : Int, evS Z (.ife (.cmp .lt (.var 4) (.bin .pow (.int (10)) (.int (18)))) (.cons (.set 4 (.bin .mod (.bi .int (.cons (.bin .add (.bin .add (.bin .mul (.var 4) (.int (48271))) (.bin .mul (.var 3) (.int (69621)))) (.int (11))) (.nil))) (.int (2147483647)))) (.cons (.set 4 (.bin .add (.bin .mul (.bin .mod (.bi .int (.cons (.bin .add (.bin .mul (.var 4) (.int (16807))) (.int (13))) (.nil))) (.int (2147483647))) (.int (65537))) (.var 4))) (.nil))) (.nil))
    [some (.val .strm), some (.val many), none, some (.val (.int n)), some (.val (.int cell))] z = .ok (.nx [some (.val .strm), some (.val many), none, some (.val (.int n)), some (.val (.int cell2))]) z := by
  have p : binD .pow (.int 10) (.int 18) = some (.int 1000000000000000000) := by
    simp [binD]
  by_cases hl : cell < 1000000000000000000
  · obtain ⟨u, hu⟩ : ∃ u, u = (cell * 48271 + n * 69621 + 11).fmod 2147483647 := ⟨_, rfl⟩
    obtain ⟨u0, u1⟩ := fmod_rng (i := cell * 48271 + n * 69621 + 11) (j := 2147483647) (by decide)
    rw [← hu] at u0 u1
    obtain ⟨v, hv⟩ : ∃ v, v = (u * 16807 + 13).fmod 2147483647 := ⟨_, rfl⟩
    obtain ⟨v0, v1⟩ := fmod_rng (i := u * 16807 + 13) (j := 2147483647) (by decide)
    rw [← hv] at v0 v1
    have c1 : cell.natAbs.log2 + (48271 : Int).natAbs.log2 < 1000000 := by
      have := log_lt (b := 60) hc (by omega) (by decide)
      have e : (48271 : Int).natAbs.log2 = 15 := by decide +kernel
      omega
    have c2 : n.natAbs.log2 + (69621 : Int).natAbs.log2 < 1000000 := by
      have := log_lt (b := 41) h0 hn (by decide)
      have e : (69621 : Int).natAbs.log2 = 16 := by decide +kernel
      omega
    have c3 : u.natAbs.log2 + (16807 : Int).natAbs.log2 < 1000000 := by
      have := log_lt (b := 31) u0 (by omega) (by decide)
      have e : (16807 : Int).natAbs.log2 = 14 := by decide +kernel
      omega
    have c4 : v.natAbs.log2 + (65537 : Int).natAbs.log2 < 1000000 := by
      have := log_lt (b := 31) v0 (by omega) (by decide)
      have e : (65537 : Int).natAbs.log2 = 16 := by decide +kernel
      omega
    have m0 : (2147483647 : Int) ≠ 0 := by decide
    refine ⟨v * 65537 + u, ?_⟩
    simp only [evSs, evS, evE, evEs, List.getElem?_cons_succ, List.getElem?_cons_zero, Res.bind_ok, bS_ok, lift_some, p, cmpD, hl, decide_true, truD, binD_mul c1, binD_mul c2, binD_mul c3, binD_mul c4, binD_add, biD, binD_mod m0, ← hu, ← hv, List.set_cons_succ, List.set_cons_zero]
  · refine ⟨cell, ?_⟩
    simp only [evSs, evS, evE, evEs, List.getElem?_cons_succ, List.getElem?_cons_zero, Res.bind_ok, bS_ok, lift_some, p, cmpD, hl, decide_false, truD]
theorem next_ok {T : Tab} {k f m : Nat} {z : Sto} {many : Int} (hf : T.fns[f]? = some ⟨2, 5, nextB⟩) (st : Stm m z) (hm : m < 2 ^ 40) (h1 : 0 < many) (h2 : many < 2 ^ 30) :
    ∃ v z', 0 ≤ v ∧ v < many ∧ Stm (m + 1) z' ∧ callF T (k + 1) f [.strm, .int many] z = .ok (.int v) z' := by
  have fin : ∀ (xs : List Int) (c n : Int) (s3 s4 : Option Slot), evSs ⟨callF T k, T.con, T.W⟩ (.cons (.set 2 (.bin .mod (.bi .int (.cons (.idx (.var 0) (.int (1))) (.nil))) (.var 1))) (.cons (.stI 0 1 (.bin .fdiv (.idx (.var 0) (.int (1))) (.var 1))) (.cons (.ret (.var 2)) (.nil)))) [some (.val .strm), some (.val (.int many)), none, s3, s4] ⟨some (xs, c, n), []⟩ = .ok (.rt (.int (c.fmod many))) ⟨some (xs, c.fdiv many, n), []⟩ := fun xs c n s3 s4 => by
    have m0 : many ≠ 0 := by omega
    have m1 : many ≠ 0 ∧ (many.natAbs < 1073741824 ∨ (0 < many ∧ many.natAbs.log2 < 9000)) := ⟨m0, .inl (by omega)⟩
    simp [evSs, evS, evE, evEs, hasBor, isBor, idxD, biD, binD_mod m0, binD_fdiv m1]
  obtain ⟨xs, c, n, rfl, h0, hle⟩ := st
  obtain ⟨w0, w1⟩ := fmod_rng (i := c) h1
  by_cases hc : c = 0
  · subst hc
    obtain ⟨cell, hcell, e3⟩ := cell_read (Z := ⟨callF T k, T.con, T.W⟩) (many := .int many) (xs := xs) (c := 0) h0
    obtain ⟨cell2, e4⟩ := cell_mix (Z := ⟨callF T k, T.con, T.W⟩) (many := .int many) (z := ⟨some (xs, 0, n), []⟩) h0 (by omega) hcell
    obtain ⟨v0, v1⟩ := fmod_rng (i := cell2) h1
    refine ⟨cell2.fmod many, ⟨some (xs, cell2.fdiv many, n + 1), []⟩, v0, v1, ⟨xs, _, n + 1, rfl, by omega, by omega⟩, ?_⟩
    have go : evSs ⟨callF T k, T.con, T.W⟩ nextB [some (.val .strm), some (.val (.int many)), none, none, none] ⟨some (xs, 0, n), []⟩ = .ok (.rt (.int (cell2.fmod many))) ⟨some (xs, cell2.fdiv many, n + 1), []⟩ := by
      refine run_nx (σ' := [some (.val .strm), some (.val (.int many)), none, some (.val (.int n)), some (.val (.int cell2))]) (z' := ⟨some (xs, cell2, n + 1), []⟩) ?_ (fin xs cell2 (n + 1) _ _)
      have t : ∀ (a b : Ss), evS ⟨callF T k, T.con, T.W⟩ (.ife (.cmp .eq (.idx (.var 0) (.int (1))) (.int (0))) a b) [some (.val .strm), some (.val (.int many)), none, none, none] ⟨some (xs, 0, n), []⟩ = evSs ⟨callF T k, T.con, T.W⟩ a [some (.val .strm), some (.val (.int many)), none, none, none] ⟨some (xs, 0, n), []⟩ := fun a b => by
        simp [evS, evE, idxD, cmpD, eqD, D.pln, D.dep, D.eqv, truD]
      rw [t]
      refine run_nx rfl (run_nx rfl (run_nx e3 (run_nx e4 (run_nx rfl (run_nx rfl run_end)))))
    rw [callF_eq hf rfl]
    exact congrArg runS go
  · refine ⟨c.fmod many, ⟨some (xs, c.fdiv many, n), []⟩, w0, w1, ⟨xs, _, n, rfl, h0, by omega⟩, ?_⟩
    have hb : (c == 0) = false := by rw [beq_eq_false_iff_ne]; exact hc
    have go : evSs ⟨callF T k, T.con, T.W⟩ nextB [some (.val .strm), some (.val (.int many)), none, none, none] ⟨some (xs, c, n), []⟩ = .ok (.rt (.int (c.fmod many))) ⟨some (xs, c.fdiv many, n), []⟩ := by
      refine run_nx (σ' := [some (.val .strm), some (.val (.int many)), none, none, none]) (z' := ⟨some (xs, c, n), []⟩) ?_ (fin xs c n _ _)
      simp [evSs, evS, evE, evEs, hasBor, isBor, idxD, cmpD, eqD, D.pln, D.dep, D.eqv, hb, truD]
    rw [callF_eq hf rfl]
    exact congrArg runS go
def streamB : Ss := .cons (.ret (.strm (.bi .list (.cons (.var 0) (.nil))))) (.nil)
theorem intsOf_map : ∀ xs : List Int, intsOf (xs.map D.int) = some xs
  | [] => rfl
  | x :: xs => by
    show (intsOf (xs.map D.int)).map (x :: ·) = _
    rw [intsOf_map xs]; rfl
theorem stream_ok {T : Tab} {k f : Nat} {xs : List Int} (hf : T.fns[f]? = some ⟨1, 1, streamB⟩) : ∃ z', Stm 0 z' ∧ callF T (k + 1) f [.ext xs] ⟨none, []⟩ = .ok .strm z' := by
  refine ⟨⟨some (xs, 0, 0), []⟩, ⟨xs, 0, 0, rfl, by decide, by decide⟩, ?_⟩
  rw [callF_eq hf rfl]
  simp [streamB, evSs, evS, evE, evEs, biD, intsOf_map, runS, outD]
end EV

namespace EV
/-! ### comprehensions whose turns leave the store as it is -/
theorem goL_map {f : D → Sto → Res (List D)} {z : Sto} {g : D → D} : ∀ {ds : List D}, (∀ d ∈ ds, f d z = .ok [g d] z) → goL f ds z = .ok (ds.map g) z
  | [], _ => rfl
  | d :: ds, h => by
    show (f d z).bind (fun a z => (goL f ds z).bind fun b z => .ok (a ++ b) z) = _
    rw [h d List.mem_cons_self, Res.bind_ok, goL_map fun e he => h e (List.mem_cons_of_mem _ he)]
    rfl
theorem goL_flat {f : D → Sto → Res (List D)} {z : Sto} {g : D → List D} : ∀ {ds : List D}, (∀ d ∈ ds, f d z = .ok (g d) z) → goL f ds z = .ok (ds.flatMap g) z
  | [], _ => rfl
  | d :: ds, h => by
    show (f d z).bind (fun a z => (goL f ds z).bind fun b z => .ok (a ++ b) z) = _
    rw [h d List.mem_cons_self, Res.bind_ok, goL_flat fun e he => h e (List.mem_cons_of_mem _ he)]
    rfl
theorem goR_map {f : D → Sto → Res (List D)} {z : Sto} {g : Nat → D} : ∀ (n : Nat) (lo : Int), (∀ j < n, f (.int (lo + (j : Nat))) z = .ok [g j] z) → goR f lo n z = .ok ((List.range n).map g) z := by
  intro n
  induction n generalizing g with
  | zero => intro lo _; rfl
  | succ n ih =>
    intro lo h
    show (f (.int lo) z).bind (fun a z => (goR f (lo + 1) n z).bind fun b z => .ok (a ++ b) z) = _
    have h0 := h 0 (by omega)
    rw [show lo + ((0 : Nat) : Int) = lo by omega] at h0
    rw [h0, Res.bind_ok, ih (g := fun j => g (j + 1)) (lo + 1) (fun j hj => by
      have := h (j + 1) (by omega)
      rw [show lo + ((j + 1 : Nat) : Int) = lo + 1 + (j : Nat) by omega] at this
      exact this)]
    rw [List.range_succ_eq_map, List.map_cons, List.map_map]
    rfl
theorem isi_int_non  : isiD .int .non = some false := rfl
theorem isi_bool_non  : isiD .bool .non = some false := rfl
theorem isi_str_non  : isiD .str .non = some false := rfl
theorem isi_tuple_non  : isiD .tuple .non = some false := rfl
theorem isi_list_non  : isiD .list .non = some false := rfl
theorem isi_int_bl {b : Bool} : isiD .int (.bl b) = some true := rfl
theorem isi_bool_bl {b : Bool} : isiD .bool (.bl b) = some true := rfl
theorem isi_str_bl {b : Bool} : isiD .str (.bl b) = some false := rfl
theorem isi_tuple_bl {b : Bool} : isiD .tuple (.bl b) = some false := rfl
theorem isi_list_bl {b : Bool} : isiD .list (.bl b) = some false := rfl
theorem isi_int_int {i : Int} : isiD .int (.int i) = some true := rfl
theorem isi_bool_int {i : Int} : isiD .bool (.int i) = some false := rfl
theorem isi_str_int {i : Int} : isiD .str (.int i) = some false := rfl
theorem isi_tuple_int {i : Int} : isiD .tuple (.int i) = some false := rfl
theorem isi_list_int {i : Int} : isiD .list (.int i) = some false := rfl
theorem isi_int_str {s : List Nat} : isiD .int (.str s) = some false := rfl
theorem isi_bool_str {s : List Nat} : isiD .bool (.str s) = some false := rfl
theorem isi_str_str {s : List Nat} : isiD .str (.str s) = some true := rfl
theorem isi_tuple_str {s : List Nat} : isiD .tuple (.str s) = some false := rfl
theorem isi_list_str {s : List Nat} : isiD .list (.str s) = some false := rfl
theorem isi_int_tup {ds : List D} : isiD .int (.tup ds) = some false := rfl
theorem isi_bool_tup {ds : List D} : isiD .bool (.tup ds) = some false := rfl
theorem isi_str_tup {ds : List D} : isiD .str (.tup ds) = some false := rfl
theorem isi_tuple_tup {ds : List D} : isiD .tuple (.tup ds) = some true := rfl
theorem isi_list_tup {ds : List D} : isiD .list (.tup ds) = some false := rfl
theorem isi_int_lst {ds : List D} : isiD .int (.lst ds) = some false := rfl
theorem isi_bool_lst {ds : List D} : isiD .bool (.lst ds) = some false := rfl
theorem isi_str_lst {ds : List D} : isiD .str (.lst ds) = some false := rfl
theorem isi_tuple_lst {ds : List D} : isiD .tuple (.lst ds) = some false := rfl
theorem isi_list_lst {ds : List D} : isiD .list (.lst ds) = some true := rfl
theorem evE_comp {Z : Cxt} {t : Tg} {it : I} {e : C} {σ : Sg} {z z' z'' : Sto} {iv : Iv} {vs : List D} (fr : freeAt σ t.slots = true) (h : evI Z it σ z = .ok iv z') (hg : goI (turnI Z t (.bl true) e t.slots σ) iv z' = .ok vs z'') (hl : vs.length ≤ lim) : evE Z (.comp t it e) σ z = .ok (.lst vs) z'' := by
  show (if freeAt σ t.slots = true then (evI Z it σ z).bind fun v z => (goI (turnI Z t (.bl true) e t.slots σ) v z).bind fin else .err) = _
  rw [if_pos fr, h, Res.bind_ok, hg, Res.bind_ok]
  exact if_pos hl
theorem evE_compI {Z : Cxt} {t : Tg} {it : I} {c e : C} {σ : Sg} {z z' z'' : Sto} {iv : Iv} {vs : List D} (fr : freeAt σ t.slots = true) (h : evI Z it σ z = .ok iv z') (hg : goI (turnI Z t c e t.slots σ) iv z' = .ok vs z'') (hl : vs.length ≤ lim) : evE Z (.compI t it c e) σ z = .ok (.lst vs) z'' := by
  show (if freeAt σ t.slots = true then (evI Z it σ z).bind fun v z => (goI (turnI Z t c e t.slots σ) v z).bind fin else .err) = _
  rw [if_pos fr, h, Res.bind_ok, hg, Res.bind_ok]
  exact if_pos hl
theorem turn_true {Z : Cxt} {t : Tg} {e : C} {vs : List Nat} {σ σ' : Sg} {d x : D} {z z' : Sto} (h : asgT t d (wipeE σ vs) = some σ') (h2 : evE Z e σ' z = .ok x z') : turnI Z t (.bl true) e vs σ d z = .ok [x] z' := by
  unfold turnI
  rw [h]
  show (match evE Z e σ' z with
    | .ok x z => Res.ok [x] z
    | _ => .err) = _
  rw [h2]
/-! ### the law's equality is told of what is the same -/
mutual
def D.szb : D → Bool
  | .tup ds | .lst ds => decide (ds.length ≤ lim) && D.szbs ds
  | .ktp _ => false
  | _ => true
def D.szbs : List D → Bool
  | [] => true
  | d :: ds => D.szb d && D.szbs ds
end
theorem D.mem_ok : ∀ {ds : List D} {d : D}, d ∈ ds → (D.plns ds = true → d.pln = true) ∧ (D.szbs ds = true → d.szb = true) ∧ d.dep ≤ D.deps ds
  | a :: ds, d, h => by
    rcases List.mem_cons.mp h with rfl | h
    · refine ⟨fun e => ?_, fun e => ?_, ?_⟩
      · simp only [D.plns, Bool.and_eq_true] at e; exact e.1
      · simp only [D.szbs, Bool.and_eq_true] at e; exact e.1
      · unfold D.deps; exact Nat.le_max_left _ _
    · obtain ⟨h1, h2, h3⟩ := D.mem_ok h
      refine ⟨fun e => ?_, fun e => ?_, ?_⟩
      · simp only [D.plns, Bool.and_eq_true] at e; exact h1 e.2
      · simp only [D.szbs, Bool.and_eq_true] at e; exact h2 e.2
      · unfold D.deps; exact Nat.le_trans h3 (Nat.le_max_right _ _)
def isIntB : Ss := .cons (.ret (.and (.isi .int (.var 0)) (.one (.not (.isi .bool (.var 0)))))) (.nil)
def lequalB (fe fi : Nat) : Ss := .cons (.ife (.isN false (.var 1)) (.cons (.ret (.isN false (.var 0))) (.nil)) (.nil)) (.cons (.ife (.isi .bool (.var 1)) (.cons (.ret (.and (.isi .bool (.var 0)) (.one (.cmp .eq (.var 0) (.var 1))))) (.nil)) (.nil)) (.cons (.ife (.isi .int (.var 1)) (.cons (.ret (.and (.call fi (.cons (.var 0) (.nil))) (.one (.cmp .eq (.var 0) (.var 1))))) (.nil)) (.nil)) (.cons (.ife (.isi .str (.var 1)) (.cons (.ret (.and (.isi .str (.var 0)) (.one (.cmp .eq (.var 0) (.var 1))))) (.nil)) (.nil)) (.cons (.ife (.and (.isi .tuple (.var 1)) (.one (.not (.isi .tuple (.var 0))))) (.cons (.ret (.bl false)) (.nil)) (.nil)) (.cons (.ife (.and (.isi .list (.var 1)) (.one (.not (.isi .list (.var 0))))) (.cons (.ret (.bl false)) (.nil)) (.nil)) (.cons (.ife (.cmp .ne (.bi .len (.cons (.var 0) (.nil))) (.bi .len (.cons (.var 1) (.nil)))) (.cons (.ret (.bl false)) (.nil)) (.nil)) (.cons (.ret (.bi .all (.cons (.comp (.nm 2) (.rng1 (.bi .len (.cons (.var 1) (.nil)))) (.call fe (.cons (.idx (.var 0) (.var 2)) (.cons (.idx (.var 1) (.var 2)) (.nil))))) (.nil)))) (.nil))))))))
theorem isInt_int {T : Tab} {k fi : Nat} (hi : T.fns[fi]? = some ⟨1, 1, isIntB⟩) (i : Int) : Pure T (k + 1) fi [.int i] (.bl true) := by
  refine pure_of hi rfl fun z => ?_
  simp [isIntB, evSs, evS, evE, isiD, truD]
theorem boolsOf_rep : ∀ n : Nat, boolsOf ((List.range n).map fun _ => D.bl true) = some (List.replicate n true) := by
  have go : ∀ l : List Nat, boolsOf (l.map fun _ => D.bl true) = some (List.replicate l.length true) := fun l => by
    induction l with
    | nil => rfl
    | cons a l ih =>
      show (boolsOf (l.map fun _ => D.bl true)).map (true :: ·) = _
      rw [ih]; rfl
  intro n
  rw [go, List.length_range]
theorem evI_rng1 {Z : Cxt} {e : C} {σ : Sg} {z z' : Sto} {j : Int} (h : evE Z e σ z = .ok (.int j) z') (hj : -(2 ^ 62) ≤ j ∧ j < 2 ^ 62) : evI Z (.rng1 e) σ z = .ok (.r 0 j.toNat) z' := by
  unfold evI
  rw [h]
  exact if_pos hj
theorem evI_rngN {Z : Cxt} {e : C} {σ : Sg} {z z' : Sto} {n : Nat} (h : evE Z e σ z = .ok (.int (n : Nat)) z') (hn : n ≤ lim) : evI Z (.rng1 e) σ z = .ok (.r 0 n) z' :=
  evI_rng1 h (by unfold lim at hn; omega)
theorem lequal_seq {T : Tab} {fe : Nat} {k : Nat} {z : Sto} (ih : ∀ (d : D), d.pln = true → d.szb = true → d.dep ≤ k → Pure T (k + 2) fe [d, d] (.bl true)) (ds : List D) (d : D) (hix : ∀ j : Nat, j < ds.length → idxD z d (.int (j : Nat)) = ds[j]?) (hln : lenD d = some ds.length) (hp : D.plns ds = true) (hs : D.szbs ds = true) (hl : ds.length ≤ lim) (hd : D.deps ds ≤ k) :
    evE ⟨callF T (k + 2), T.con, T.W⟩ (.bi .all (.cons (.comp (.nm 2) (.rng1 (.bi .len (.cons (.var 1) (.nil)))) (.call fe (.cons (.idx (.var 0) (.var 2)) (.cons (.idx (.var 1) (.var 2)) (.nil))))) (.nil))) [some (.val d), some (.val d), none] z = .ok (.bl true) z := by
  have loop : goR (turnI ⟨callF T (k + 2), T.con, T.W⟩ (.nm 2) (.bl true) (.call fe (.cons (.idx (.var 0) (.var 2)) (.cons (.idx (.var 1) (.var 2)) (.nil)))) [2] [some (.val d), some (.val d), none]) 0 ds.length z = .ok ((List.range ds.length).map fun _ => D.bl true) z := by
    refine goR_map (g := fun _ => D.bl true) ds.length 0 fun j hj => ?_
    have e := hix j hj
    rw [List.getElem?_eq_getElem hj] at e
    obtain ⟨m1, m2, m3⟩ := D.mem_ok (List.getElem_mem hj)
    have q := ih ds[j] (m1 hp) (m2 hs) (Nat.le_trans m3 hd)
    rw [show (0 : Int) + (j : Nat) = (j : Nat) by omega]
    refine turn_true (σ' := [some (.val d), some (.val d), some (.val (.int (j : Nat)))]) rfl ?_
    simp only [evE, evEs, List.getElem?_cons_succ, List.getElem?_cons_zero, Res.bind_ok, e, lift_some, hasBor, isBor, Bool.or_self, callE_pure q]
  have it : evI ⟨callF T (k + 2), T.con, T.W⟩ (.rng1 (.bi .len (.cons (.var 1) (.nil)))) [some (.val d), some (.val d), none] z = .ok (.r 0 ds.length) z := by
    exact evI_rngN (evE_bi1 rfl (by simp only [biD, hln, Option.map_some])) hl
  have cc := evE_comp (Z := ⟨callF T (k + 2), T.con, T.W⟩) (t := .nm 2) (σ := [some (.val d), some (.val d), none]) rfl it (vs := (List.range ds.length).map fun _ => D.bl true) loop (by rw [List.length_map, List.length_range]; exact hl)
  refine evE_bi1 cc ?_
  simp only [biD, boolsOf_rep, Option.map_some]
  congr 2
  simp
theorem lequal_refl {T : Tab} {fe fi : Nat} (he : T.fns[fe]? = some ⟨2, 3, lequalB fe fi⟩) (hi : T.fns[fi]? = some ⟨1, 1, isIntB⟩) : ∀ (k : Nat) (d : D), d.pln = true → d.szb = true → d.dep ≤ k → Pure T (k + 2) fe [d, d] (.bl true) := by
  intro k
  induction k with
  | zero =>
    intro d hp hs hd
    refine pure_of he rfl fun z => ?_
    cases d with
    | non => simp [lequalB, evSs, evS, evE, truD]
    | bl b => simp [lequalB, evSs, evS, evE, truD, isi_int_non, isi_bool_non, isi_str_non, isi_tuple_non, isi_list_non, isi_int_bl, isi_bool_bl, isi_str_bl, isi_tuple_bl, isi_list_bl, isi_int_int, isi_bool_int, isi_str_int, isi_tuple_int, isi_list_int, isi_int_str, isi_bool_str, isi_str_str, isi_tuple_str, isi_list_str, isi_int_tup, isi_bool_tup, isi_str_tup, isi_tuple_tup, isi_list_tup, isi_int_lst, isi_bool_lst, isi_str_lst, isi_tuple_lst, isi_list_lst, cmpD, eqD, D.pln, D.dep, D.eqv]
    | int i => simp [lequalB, evSs, evS, evE, evEs, hasBor, isBor, truD, isi_int_non, isi_bool_non, isi_str_non, isi_tuple_non, isi_list_non, isi_int_bl, isi_bool_bl, isi_str_bl, isi_tuple_bl, isi_list_bl, isi_int_int, isi_bool_int, isi_str_int, isi_tuple_int, isi_list_int, isi_int_str, isi_bool_str, isi_str_str, isi_tuple_str, isi_list_str, isi_int_tup, isi_bool_tup, isi_str_tup, isi_tuple_tup, isi_list_tup, isi_int_lst, isi_bool_lst, isi_str_lst, isi_tuple_lst, isi_list_lst, cmpD, eqD, D.pln, D.dep, D.eqv, callE_pure (isInt_int (k := 0) hi i)]
    | str s => simp [lequalB, evSs, evS, evE, truD, isi_int_non, isi_bool_non, isi_str_non, isi_tuple_non, isi_list_non, isi_int_bl, isi_bool_bl, isi_str_bl, isi_tuple_bl, isi_list_bl, isi_int_int, isi_bool_int, isi_str_int, isi_tuple_int, isi_list_int, isi_int_str, isi_bool_str, isi_str_str, isi_tuple_str, isi_list_str, isi_int_tup, isi_bool_tup, isi_str_tup, isi_tuple_tup, isi_list_tup, isi_int_lst, isi_bool_lst, isi_str_lst, isi_tuple_lst, isi_list_lst, cmpD, eqD, D.pln, D.dep, D.eqv]
    | tup ds => simp [D.dep] at hd
    | lst ds => simp [D.dep] at hd
    | _ => first | (simp [D.pln] at hp; done) | (simp [D.szb] at hs; done)
  | succ k ih =>
    intro d hp hs hd
    refine pure_of he rfl fun z => ?_
    cases d with
    | non => simp [lequalB, evSs, evS, evE, truD]
    | bl b => simp [lequalB, evSs, evS, evE, truD, isi_int_non, isi_bool_non, isi_str_non, isi_tuple_non, isi_list_non, isi_int_bl, isi_bool_bl, isi_str_bl, isi_tuple_bl, isi_list_bl, isi_int_int, isi_bool_int, isi_str_int, isi_tuple_int, isi_list_int, isi_int_str, isi_bool_str, isi_str_str, isi_tuple_str, isi_list_str, isi_int_tup, isi_bool_tup, isi_str_tup, isi_tuple_tup, isi_list_tup, isi_int_lst, isi_bool_lst, isi_str_lst, isi_tuple_lst, isi_list_lst, cmpD, eqD, D.pln, D.dep, D.eqv]
    | int i => simp [lequalB, evSs, evS, evE, evEs, hasBor, isBor, truD, isi_int_non, isi_bool_non, isi_str_non, isi_tuple_non, isi_list_non, isi_int_bl, isi_bool_bl, isi_str_bl, isi_tuple_bl, isi_list_bl, isi_int_int, isi_bool_int, isi_str_int, isi_tuple_int, isi_list_int, isi_int_str, isi_bool_str, isi_str_str, isi_tuple_str, isi_list_str, isi_int_tup, isi_bool_tup, isi_str_tup, isi_tuple_tup, isi_list_tup, isi_int_lst, isi_bool_lst, isi_str_lst, isi_tuple_lst, isi_list_lst, cmpD, eqD, D.pln, D.dep, D.eqv, callE_pure (isInt_int (k := k + 1) hi i)]
    | str s => simp [lequalB, evSs, evS, evE, truD, isi_int_non, isi_bool_non, isi_str_non, isi_tuple_non, isi_list_non, isi_int_bl, isi_bool_bl, isi_str_bl, isi_tuple_bl, isi_list_bl, isi_int_int, isi_bool_int, isi_str_int, isi_tuple_int, isi_list_int, isi_int_str, isi_bool_str, isi_str_str, isi_tuple_str, isi_list_str, isi_int_tup, isi_bool_tup, isi_str_tup, isi_tuple_tup, isi_list_tup, isi_int_lst, isi_bool_lst, isi_str_lst, isi_tuple_lst, isi_list_lst, cmpD, eqD, D.pln, D.dep, D.eqv]
    | tup ds =>
      simp only [D.pln, D.szb, Bool.and_eq_true, decide_eq_true_eq, D.dep] at hp hs hd
      have q := lequal_seq (z := z) ih ds (.tup ds) (fun j hj => by simp [idxD, L2.atI, L2.ixN, hj]) rfl hp hs.2 hs.1 (by omega)
      refine run_same rfl (run_same rfl (run_same rfl (run_same rfl (run_same rfl (run_same rfl (run_same (by simp [evSs, evS, evE, evEs, truD, biD, lenD, cmpD, eqD, D.pln, D.dep, D.eqv]) (run_rt (evS_ret q))))))))
    | lst ds =>
      simp only [D.pln, D.szb, Bool.and_eq_true, decide_eq_true_eq, D.dep] at hp hs hd
      have q := lequal_seq (z := z) ih ds (.lst ds) (fun j hj => by simp [idxD, L2.atI, L2.ixN, hj]) rfl hp hs.2 hs.1 (by omega)
      refine run_same rfl (run_same rfl (run_same rfl (run_same rfl (run_same rfl (run_same rfl (run_same (by simp [evSs, evS, evE, evEs, truD, biD, lenD, cmpD, eqD, D.pln, D.dep, D.eqv]) (run_rt (evS_ret q))))))))
    | _ => first | (simp [D.pln] at hp; done) | (simp [D.szb] at hs; done)
end EV

namespace EV
theorem evI_tup {Z : Cxt} {e : C} {σ : Sg} {z z' : Sto} {ds : List D} (h : evE Z e σ z = .ok (.tup ds) z') : evI Z (.seq e) σ z = .ok (.l ds) z' := by
  unfold evI
  rw [h]
  rfl
theorem evI_lst {Z : Cxt} {e : C} {σ : Sg} {z z' : Sto} {ds : List D} (h : evE Z e σ z = .ok (.lst ds) z') : evI Z (.seq e) σ z = .ok (.l ds) z' := by
  unfold evI
  rw [h]
  rfl
theorem evI_enumT {Z : Cxt} {e : C} {σ : Sg} {z z' : Sto} {ds : List D} (h : evE Z e σ z = .ok (.tup ds) z') : evI Z (.enum e) σ z = .ok (.l (ds.zipIdx.map fun p => .tup [.int p.2, p.1])) z' := by
  unfold evI
  rw [h]
  rfl
/-- [e for t in v], each turn pure -/
theorem comp_map {Z : Cxt} {t : Tg} {it : I} {e : C} {σ : Sg} {z z' : Sto} {ds : List D} {g : D → D} (hi : evI Z it σ z = .ok (.l ds) z') (fr : freeAt σ t.slots = true) (hl : ds.length ≤ lim)
    (turn : ∀ d ∈ ds, ∃ σ', asgT t d (wipeE σ t.slots) = some σ' ∧ evE Z e σ' z' = .ok (g d) z') : evE Z (.comp t it e) σ z = .ok (.lst (ds.map g)) z' :=
  evE_comp fr hi (goL_map (g := g) fun d hd => by
    obtain ⟨σ', h1, h2⟩ := turn d hd
    exact turn_true h1 h2) (by rw [List.length_map]; exact hl)
/-- [e for t in range(n)], each turn pure -/
theorem comp_range {Z : Cxt} {t : Tg} {it : I} {e : C} {σ : Sg} {z z' : Sto} {n : Nat} {g : Nat → D} (hi : evI Z it σ z = .ok (.r 0 n) z') (fr : freeAt σ t.slots = true) (hl : n ≤ lim)
    (turn : ∀ j < n, ∃ σ', asgT t (.int (j : Nat)) (wipeE σ t.slots) = some σ' ∧ evE Z e σ' z' = .ok (g j) z') : evE Z (.comp t it e) σ z = .ok (.lst ((List.range n).map g)) z' :=
  evE_comp fr hi (goR_map (g := g) n 0 fun j hj => by
    obtain ⟨σ', h1, h2⟩ := turn j hj
    rw [show (0 : Int) + (j : Nat) = (j : Nat) by omega]
    exact turn_true h1 h2) (by rw [List.length_map, List.length_range]; exact hl)
theorem boolsOf_map {α : Type} {g : α → Bool} : ∀ l : List α, boolsOf (l.map fun a => D.bl (g a)) = some (l.map g)
  | [] => rfl
  | a :: l => by
    show (boolsOf (l.map fun a => D.bl (g a))).map (g a :: ·) = _
    rw [boolsOf_map l]; rfl
theorem intsOf_map2 {α : Type} {g : α → Int} : ∀ l : List α, intsOf (l.map fun a => D.int (g a)) = some (l.map g)
  | [] => rfl
  | a :: l => by
    show (intsOf (l.map fun a => D.int (g a))).map (g a :: ·) = _
    rw [intsOf_map2 l]; rfl
/-- all([e for t in v]) where each turn says true -/
theorem all_true {Z : Cxt} {t : Tg} {it : I} {e : C} {σ : Sg} {z z' : Sto} {ds : List D} (hi : evI Z it σ z = .ok (.l ds) z') (fr : freeAt σ t.slots = true) (hl : ds.length ≤ lim)
    (turn : ∀ d ∈ ds, ∃ σ', asgT t d (wipeE σ t.slots) = some σ' ∧ evE Z e σ' z' = .ok (.bl true) z') : evE Z (.bi .all (.cons (.comp t it e) .nil)) σ z = .ok (.bl true) z' := by
  refine evE_bi1 (comp_map (g := fun _ => .bl true) hi fr hl turn) ?_
  have e := boolsOf_map (g := fun _ : D => true) ds
  simp only [biD, e, Option.map_some]
  congr 2
  simp
/-- sum([e for t in v]) where each turn gives a number -/
theorem sum_map {Z : Cxt} {t : Tg} {it : I} {e : C} {σ : Sg} {z z' : Sto} {ds : List D} {g : D → Int} (hi : evI Z it σ z = .ok (.l ds) z') (fr : freeAt σ t.slots = true) (hl : ds.length ≤ lim)
    (turn : ∀ d ∈ ds, ∃ σ', asgT t d (wipeE σ t.slots) = some σ' ∧ evE Z e σ' z' = .ok (.int (g d)) z') : evE Z (.bi .sum (.cons (.comp t it e) .nil)) σ z = .ok (.int (ds.map g).sum) z' := by
  refine evE_bi1 (comp_map (g := fun d => .int (g d)) hi fr hl turn) ?_
  have e := intsOf_map2 (g := g) ds
  simp only [biD, e, Option.map_some]
theorem evE_not {Z : Cxt} {a : C} {σ : Sg} {z z' : Sto} {d : D} {k : Bool} (h : evE Z a σ z = .ok d z') (ht : truD d = some k) : evE Z (.not a) σ z = .ok (.bl (!k)) z' := by
  unfold evE
  rw [h]
  simp only [Res.bind_ok, ht, lift_some]
theorem evE_cmp {Z : Cxt} {o : Cop} {a b : C} {σ : Sg} {z z1 z2 : Sto} {x y : D} {k : Bool} (h : evE Z a σ z = .ok x z1) (h2 : evE Z b σ z1 = .ok y z2) (hc : cmpD o x y = some k) : evE Z (.cmp o a b) σ z = .ok (.bl k) z2 := by
  unfold evE
  rw [h, Res.bind_ok, h2, Res.bind_ok, hc]
  rfl
theorem evE_and_t {Z : Cxt} {a b : C} {σ : Sg} {z z1 : Sto} {x : D} (h : evE Z a σ z = .ok x z1) (ht : truD x = some true) : evE Z (.and a b) σ z = evE Z b σ z1 := by
  conv => lhs; unfold evE
  rw [h]
  simp only [Res.bind_ok, ht, lift_some]
theorem evE_one {Z : Cxt} {a : C} {σ : Sg} {z : Sto} : evE Z (.one a) σ z = evE Z a σ z := by
  conv => lhs; unfold evE
theorem evS_if_f {Z : Cxt} {c : C} {a : Ss} {σ : Sg} {z z' : Sto} {d : D} (h : evE Z c σ z = .ok d z') (ht : truD d = some false) : evS Z (.ife c a .nil) σ z = .ok (.nx σ) z' := by
  rw [evS_if h ht]
  rfl
/-! ### a for's walk by what stays true -/
theorem forL_inv {f : D → Sg → Sto → Res Fl} (P : List D → Sg → Sto → Prop) (step : ∀ d ds σ z, P (d :: ds) σ z → ∃ σ' z', f d σ z = .ok (.nx σ') z' ∧ P ds σ' z') : ∀ (ds : List D) (σ : Sg) (z : Sto), P ds σ z → ∃ σ' z', forL f ds σ z = .ok (.nx σ') z' ∧ P [] σ' z'
  | [], σ, z, h => ⟨σ, z, rfl, h⟩
  | d :: ds, σ, z, h => by
    obtain ⟨σ1, z1, e, h1⟩ := step d ds σ z h
    obtain ⟨σ2, z2, e2, h2⟩ := forL_inv P step ds σ1 z1 h1
    refine ⟨σ2, z2, ?_, h2⟩
    show (f d σ z).bind _ = _
    rw [e]
    exact e2
theorem forR_inv {f : D → Sg → Sto → Res Fl} {lo : Int} {n : Nat} (P : Nat → Sg → Sto → Prop) (step : ∀ i σ z, i < n → P i σ z → ∃ σ' z', f (.int (lo + (i : Nat))) σ z = .ok (.nx σ') z' ∧ P (i + 1) σ' z') (σ : Sg) (z : Sto) (h : P 0 σ z) : ∃ σ' z', forR f lo n σ z = .ok (.nx σ') z' ∧ P n σ' z' := by
  have go : ∀ (j i : Nat) (σ : Sg) (z : Sto), i + j = n → P i σ z → ∃ σ' z', forR f (lo + (i : Nat)) j σ z = .ok (.nx σ') z' ∧ P n σ' z' := fun j => by
    induction j with
    | zero => intro i σ z e h; exact ⟨σ, z, rfl, by rw [show n = i by omega]; exact h⟩
    | succ j ih =>
      intro i σ z e h
      obtain ⟨σ1, z1, e1, h1⟩ := step i σ z (by omega) h
      obtain ⟨σ2, z2, e2, h2⟩ := ih (i + 1) σ1 z1 (by omega) h1
      refine ⟨σ2, z2, ?_, h2⟩
      rw [forR_succ, e1]
      rw [show lo + ((i + 1 : Nat) : Int) = lo + (i : Nat) + 1 by omega] at e2
      exact e2
  have := go n 0 σ z (by omega) h
  rw [show lo + ((0 : Nat) : Int) = lo by omega] at this
  exact this
end EV

namespace EV
/-! ### rationals over powers of 60 -/
def Q60 (e m : Nat) (q : Rat) : Prop := ∃ z : Int, q = mkRat z (60 ^ e) ∧ z.natAbs ≤ 2 ^ m * 60 ^ e
theorem p60 (e : Nat) : (60 ^ e : Nat) ≠ 0 := by
  have : 0 < (60 ^ e : Nat) := Nat.pow_pos (by decide)
  omega
theorem Q60.up {e e' m m' : Nat} {q : Rat} (h : Q60 e m q) (he : e ≤ e') (hm : m ≤ m') : Q60 e' m' q := by
  obtain ⟨z, rfl, hz⟩ := h
  obtain ⟨j, rfl⟩ := Nat.exists_eq_add_of_le he
  refine ⟨z * ((60 ^ j : Nat) : Int), ?_, ?_⟩
  · rw [Nat.pow_add, Rat.mkRat_mul_right (p60 j)]
  · rw [Int.natAbs_mul, Int.natAbs_natCast, Nat.pow_add, ← Nat.mul_assoc]
    exact Nat.mul_le_mul_right _ (Nat.le_trans hz (Nat.mul_le_mul_right _ (Nat.pow_le_pow_right (by decide) hm)))
theorem Q60.add {e m : Nat} {a b : Rat} (ha : Q60 e m a) (hb : Q60 e m b) : Q60 e (m + 1) (a + b) := by
  obtain ⟨z, rfl, hz⟩ := ha
  obtain ⟨w, rfl, hw⟩ := hb
  refine ⟨z + w, ?_, ?_⟩
  · rw [Rat.mkRat_add_mkRat _ _ (p60 e) (p60 e), ← Int.add_mul, Rat.mkRat_mul_right (p60 e)]
  · have := Int.natAbs_add_le z w
    rw [Nat.pow_succ]
    have e1 : 2 ^ m * 2 * 60 ^ e = 2 ^ m * 60 ^ e + 2 ^ m * 60 ^ e := by
      rw [Nat.mul_right_comm, Nat.mul_two]
    omega
theorem Q60.mul {e m e' m' : Nat} {a b : Rat} (ha : Q60 e m a) (hb : Q60 e' m' b) : Q60 (e + e') (m + m') (a * b) := by
  obtain ⟨z, rfl, hz⟩ := ha
  obtain ⟨w, rfl, hw⟩ := hb
  refine ⟨z * w, ?_, ?_⟩
  · rw [Rat.mkRat_mul_mkRat, Nat.pow_add]
  · rw [Int.natAbs_mul, Nat.pow_add, Nat.pow_add]
    have := Nat.mul_le_mul hz hw
    rw [Nat.mul_mul_mul_comm] at this
    exact this
theorem Q60.zero {e m : Nat} : Q60 e m 0 := Q60.up (e := 0) (m := 0) ⟨0, by rfl, by decide⟩ (Nat.zero_le _) (Nat.zero_le _)
theorem Q60.one {e m : Nat} : Q60 e m 1 := by
  refine Q60.up (e := 0) (m := 0) ⟨1, by rfl, by decide⟩ (Nat.zero_le _) (Nat.zero_le _)
theorem Q60.sm {e m : Nat} {q : Rat} (h : Q60 e m q) (he : e ≤ 600) (hm : m ≤ 300000) : Sm q := by
  obtain ⟨z, rfl, hz⟩ := h
  have h60 : (60 : Nat) ^ e ≤ 2 ^ (6 * e) := by
    rw [Nat.pow_mul]
    exact Nat.pow_le_pow_left (by decide) e
  have eq := (Rat.normalize_eq_mkRat (num := z) (p60 e)).symm.trans (Rat.normalize_eq (p60 e))
  constructor
  · rw [show (mkRat z (60 ^ e)).num = z / z.natAbs.gcd (60 ^ e) from congrArg Rat.num eq]
    have h1 : (z / ((z.natAbs.gcd (60 ^ e) : Nat) : Int)).natAbs ≤ z.natAbs := Int.natAbs_ediv_le_natAbs _ _
    have h2 : z.natAbs < 2 ^ (m + 6 * e + 1) := by
      have : 2 ^ m * 60 ^ e ≤ 2 ^ m * 2 ^ (6 * e) := Nat.mul_le_mul_left _ h60
      rw [← Nat.pow_add] at this
      have : 2 ^ (m + 6 * e) < 2 ^ (m + 6 * e + 1) := Nat.pow_lt_pow_right (by decide) (by omega)
      omega
    by_cases hz0 : (z / ((z.natAbs.gcd (60 ^ e) : Nat) : Int)).natAbs = 0
    · rw [hz0]; decide
    · have := (Nat.log2_lt hz0).mpr (Nat.lt_of_le_of_lt h1 h2)
      omega
  · rw [show (mkRat z (60 ^ e)).den = 60 ^ e / z.natAbs.gcd (60 ^ e) from congrArg Rat.den eq]
    have h1 : 60 ^ e / z.natAbs.gcd (60 ^ e) ≤ 2 ^ (6 * e) := Nat.le_trans (Nat.div_le_self _ _) h60
    by_cases hz0 : 60 ^ e / z.natAbs.gcd (60 ^ e) = 0
    · rw [hz0]; decide
    · have := (Nat.log2_lt hz0).mpr (Nat.lt_of_le_of_lt h1 (Nat.pow_lt_pow_right (by decide) (by omega : 6 * e < 6 * e + 1)))
      omega
end EV

namespace EV
/-! ### what is forgotten: a slot that is not told may hold any value -/
def slLe (a b : Option Slot) : Prop := a = b ∨ (a = none ∧ ∃ d, b = some (.val d))
@[simp] theorem slLe_rfl {a : Option Slot} : slLe a a := .inl rfl
@[simp] theorem slLe_val {d : D} : slLe none (some (.val d)) := .inr ⟨rfl, d, rfl⟩
def sgLe : Sg → Sg → Prop
  | [], [] => True
  | a :: s, b :: t => slLe a b ∧ sgLe s t
  | _, _ => False
@[simp] theorem sgLe_nil : sgLe [] [] = True := rfl
@[simp] theorem sgLe_cons {a b : Option Slot} {s t : Sg} : sgLe (a :: s) (b :: t) = (slLe a b ∧ sgLe s t) := rfl
theorem sgLe.refl : ∀ {s : Sg}, sgLe s s
  | [] => trivial
  | a :: s => ⟨.inl rfl, sgLe.refl⟩
theorem slLe.trans {a b c : Option Slot} (h : slLe a b) (h2 : slLe b c) : slLe a c := by
  rcases h with rfl | ⟨rfl, d, rfl⟩
  · exact h2
  · rcases h2 with rfl | ⟨h, _⟩
    · exact .inr ⟨rfl, d, rfl⟩
    · cases h
theorem sgLe.trans : ∀ {a b c : Sg}, sgLe a b → sgLe b c → sgLe a c
  | [], [], [], _, _ => trivial
  | a :: s, b :: t, c :: u, h, h2 => ⟨h.1.trans h2.1, sgLe.trans h.2 h2.2⟩
  | [], [], _ :: _, _, h => h.elim
  | _ :: _, _ :: _, [], _, h => h.elim
  | [], _ :: _, _, h, _ => h.elim
  | _ :: _, [], _, h, _ => h.elim
theorem sgLe.get : ∀ {a b : Sg} {i : Nat} {s : Slot}, sgLe a b → a[i]? = some (some s) → b[i]? = some (some s)
  | a :: s, b :: t, 0, x, h, e => by
    simp only [List.getElem?_cons_zero, Option.some.injEq] at e ⊢
    subst e
    rcases h.1 with h | ⟨h, _⟩
    · exact h.symm
    · cases h
  | a :: s, b :: t, i + 1, x, h, e => by
    simp only [List.getElem?_cons_succ] at e ⊢
    exact sgLe.get h.2 e
  | [], _, i, x, _, e => by simp at e
  | _ :: _, [], _, _, h, _ => h.elim
theorem sgLe.set : ∀ {a b : Sg} {s : Option Slot} (i : Nat), sgLe a b → sgLe (a.set i s) (b.set i s)
  | [], [], _, _, h => h
  | a :: s, b :: t, _, 0, h => ⟨.inl rfl, h.2⟩
  | a :: s, b :: t, _, i + 1, h => ⟨h.1, sgLe.set i h.2⟩
  | [], _ :: _, _, _, h => h.elim
  | _ :: _, [], _, _, h => h.elim
theorem sgLe.len : ∀ {a b : Sg}, sgLe a b → a.length = b.length
  | [], [], _ => rfl
  | a :: s, b :: t, h => by rw [List.length_cons, List.length_cons, sgLe.len h.2]
  | [], _ :: _, h => h.elim
  | _ :: _, [], h => h.elim
theorem sgLe.wipe {a b : Sg} (h : sgLe a b) : ∀ vs : List Nat, sgLe (wipeE a vs) (wipeE b vs)
  | [] => h
  | v :: vs => (sgLe.wipe h vs).set v
theorem sgLe.freeOne : ∀ {a b : Sg} {i : Nat}, sgLe a b → (match a[i]? with
  | some (some (.own _)) => false
  | some (some (.dic _)) => false
  | _ => true) = (match b[i]? with
  | some (some (.own _)) => false
  | some (some (.dic _)) => false
  | _ => true)
  | [], [], i, h => rfl
  | a :: s, b :: t, 0, h => by
    simp only [List.getElem?_cons_zero]
    rcases h.1 with rfl | ⟨rfl, d, rfl⟩
    · rfl
    · rfl
  | a :: s, b :: t, i + 1, h => by
    simp only [List.getElem?_cons_succ]
    exact sgLe.freeOne h.2
  | [], _ :: _, _, h => h.elim
  | _ :: _, [], _, h => h.elim
theorem sgLe.free {a b : Sg} (h : sgLe a b) (vs : List Nat) : freeAt a vs = freeAt b vs := by
  unfold freeAt
  induction vs with
  | nil => rfl
  | cons v vs ih =>
    rw [List.all_cons, List.all_cons, ih]
    exact congrArg (· && _) h.freeOne
mutual
theorem sgLe.asg : ∀ (t : Tg) {d : D} {a b a1 : Sg}, sgLe a b → asgT t d a = some a1 → ∃ b1, asgT t d b = some b1 ∧ sgLe a1 b1
  | .nm i, d, a, b, a1, h, e => by
    simp only [asgT, Option.some.injEq] at e ⊢
    subst e
    exact ⟨_, rfl, h.set i⟩
  | .tp ts, d, a, b, a1, h, e => by
    cases d with
    | tup ds =>
      simp only [asgT] at e ⊢
      exact sgLe.asgs ts h e
    | ktp ks =>
      simp only [asgT] at e ⊢
      exact sgLe.asgs ts h e
    | _ => simp [asgT] at e
theorem sgLe.asgs : ∀ (ts : Tgs) {ds : List D} {a b a1 : Sg}, sgLe a b → asgTs ts ds a = some a1 → ∃ b1, asgTs ts ds b = some b1 ∧ sgLe a1 b1
  | .nil, [], a, b, a1, h, e => by
    simp only [asgTs, Option.some.injEq] at e ⊢
    subst e
    exact ⟨_, rfl, h⟩
  | .cons t ts, d :: ds, a, b, a1, h, e => by
    simp only [asgTs] at e ⊢
    cases e1 : asgT t d a with
    | none => rw [e1] at e; cases e
    | some a2 =>
      rw [e1] at e
      obtain ⟨b2, q1, q2⟩ := sgLe.asg t h e1
      rw [q1]
      exact sgLe.asgs ts q2 e
  | .nil, _ :: _, _, _, _, _, e => by simp [asgTs] at e
  | .cons _ _, [], _, _, _, _, e => by simp [asgTs] at e
end
/-- the first one is an error, or the second one is the same -/
def RLe {α : Type} (r r' : Res α) : Prop := r = .err ∨ r' = r
theorem RLe.refl {α : Type} {r : Res α} : RLe r r := .inr rfl
theorem RLe.err {α : Type} {r : Res α} : RLe .err r := .inl rfl
theorem RLe.bind {α β : Type} {r r' : Res α} {f f' : α → Sto → Res β} (h : RLe r r') (h2 : ∀ a z, RLe (f a z) (f' a z)) : RLe (r.bind f) (r'.bind f') := by
  rcases h with rfl | rfl
  · exact .inl rfl
  · cases r' with
    | ok a z => exact h2 a z
    | exn x z => exact .refl
    | err => exact .refl
theorem RLe.bS {α : Type} {r r' : Res α} {σ : Sg} {f : α → Sto → Res Fl} (h : RLe r r') : RLe (bS r σ f) (bS r' σ f) := by
  rcases h with rfl | rfl
  · exact .inl rfl
  · exact .refl
theorem goL_le {f f' : D → Sto → Res (List D)} (h : ∀ d z, RLe (f d z) (f' d z)) : ∀ (ds : List D) (z : Sto), RLe (goL f ds z) (goL f' ds z)
  | [], z => .refl
  | d :: ds, z => (h d z).bind fun a z => (goL_le h ds z).bind fun b z => .refl
theorem goR_le {f f' : D → Sto → Res (List D)} (h : ∀ d z, RLe (f d z) (f' d z)) : ∀ (n : Nat) (lo : Int) (z : Sto), RLe (goR f lo n z) (goR f' lo n z)
  | 0, lo, z => .refl
  | n + 1, lo, z => (h (.int lo) z).bind fun a z => (goR_le h n (lo + 1) z).bind fun b z => .refl
theorem goI_le {f f' : D → Sto → Res (List D)} (h : ∀ d z, RLe (f d z) (f' d z)) (iv : Iv) (z : Sto) : RLe (goI f iv z) (goI f' iv z) := by
  cases iv with
  | l ds => exact goL_le h ds z
  | r lo n => exact goR_le h n lo z
/-- a comprehension's turn -/
theorem turn_le {α : Type} {t : Tg} {d : D} {a b : Sg} {f f' : Sg → Res α} (h : sgLe a b) (h2 : ∀ a b, sgLe a b → RLe (f a) (f' b)) : RLe (match asgT t d a with
    | some σ => f σ
    | none => .err) (match asgT t d b with
    | some σ => f' σ
    | none => .err) := by
  cases e : asgT t d a with
  | none => exact .err
  | some a1 =>
    obtain ⟨b1, q1, q2⟩ := h.asg t e
    rw [q1]
    exact h2 a1 b1 q2
theorem RLe.one {r r' : Res D} : RLe r r' → RLe (match r with
    | .ok x z => Res.ok [x] z
    | _ => .err) (match r' with
    | .ok x z => Res.ok [x] z
    | _ => .err) := by
  intro h
  rcases h with rfl | rfl
  · exact .inl rfl
  · exact .refl
mutual
theorem evE_le {Z : Cxt} : ∀ (c : C) {a b : Sg} {z : Sto}, sgLe a b → RLe (evE Z c a z) (evE Z c b z)
  | .var i, a, b, z, h => by
    unfold evE
    cases e : a[i]? with
    | none => exact .err
    | some s => cases s with
      | none => exact .err
      | some s =>
        rw [h.get e]
        exact .refl
  | .bor i, a, b, z, h => by
    unfold evE peek
    cases e : a[i]? with
    | none => exact .err
    | some s => cases s with
      | none => exact .err
      | some s =>
        rw [h.get e]
        exact .refl
  | .non, a, b, z, h => .refl
  | .bl _, a, b, z, h => .refl
  | .int _, a, b, z, h => .refl
  | .str _, a, b, z, h => .refl
  | .glo _, a, b, z, h => .refl
  | .tup es, a, b, z, h => by unfold evE; exact (evEs_le es h).bind fun _ _ => .refl
  | .lst es, a, b, z, h => by unfold evE; exact (evEs_le es h).bind fun _ _ => .refl
  | .ktt es, a, b, z, h => by unfold evE; exact (evEs_le es h).bind fun _ _ => .refl
  | .ktv c, a, b, z, h => by unfold evE; exact (evE_le c h).bind fun _ _ => .refl
  | .bin _ x y, a, b, z, h => by unfold evE; exact (evE_le x h).bind fun _ _ => (evE_le y h).bind fun _ _ => .refl
  | .neg x, a, b, z, h => by unfold evE; exact (evE_le x h).bind fun _ _ => .refl
  | .cmp _ x y, a, b, z, h => by unfold evE; exact (evE_le x h).bind fun _ _ => (evE_le y h).bind fun _ _ => .refl
  | .chn _ _ x y w, a, b, z, h => by
    unfold evE
    exact (evE_le x h).bind fun _ _ => (evE_le y h).bind fun _ _ => RLe.refl.bind fun k _ => by
      cases k with
      | false => exact .refl
      | true => exact (evE_le w h).bind fun _ _ => .refl
  | .isN _ x, a, b, z, h => by unfold evE; exact (evE_le x h).bind fun _ _ => .refl
  | .isB _ _ x, a, b, z, h => by unfold evE; exact (evE_le x h).bind fun _ _ => .refl
  | .and x y, a, b, z, h => by
    unfold evE
    exact (evE_le x h).bind fun _ _ => RLe.refl.bind fun k _ => by
      cases k with
      | false => exact .refl
      | true => exact evE_le y h
  | .or x y, a, b, z, h => by
    unfold evE
    exact (evE_le x h).bind fun _ _ => RLe.refl.bind fun k _ => by
      cases k with
      | true => exact .refl
      | false => exact evE_le y h
  | .one x, a, b, z, h => by unfold evE; exact evE_le x h
  | .not x, a, b, z, h => by unfold evE; exact (evE_le x h).bind fun _ _ => .refl
  | .ite w x y, a, b, z, h => by
    unfold evE
    exact (evE_le w h).bind fun _ _ => RLe.refl.bind fun k _ => by
      cases k with
      | true => exact evE_le x h
      | false => exact evE_le y h
  | .idx x y, a, b, z, h => by unfold evE; exact (evE_le x h).bind fun _ _ => (evE_le y h).bind fun _ _ => .refl
  | .slc x y w, a, b, z, h => by unfold evE; exact (evE_le x h).bind fun _ _ => (evE_le y h).bind fun _ _ => RLe.refl.bind fun _ _ => (evE_le w h).bind fun _ _ => .refl
  | .slcL x y, a, b, z, h => by unfold evE; exact (evE_le x h).bind fun _ _ => (evE_le y h).bind fun _ _ => .refl
  | .slcH x y, a, b, z, h => by unfold evE; exact (evE_le x h).bind fun _ _ => (evE_le y h).bind fun _ _ => .refl
  | .call _ es, a, b, z, h => by unfold evE; exact (evEs_le es h).bind fun _ _ => .refl
  | .bi _ es, a, b, z, h => by unfold evE; exact (evEs_le es h).bind fun _ _ => .refl
  | .isi _ x, a, b, z, h => by unfold evE; exact (evE_le x h).bind fun _ _ => .refl
  | .strm x, a, b, z, h => by unfold evE; exact (evE_le x h).bind fun _ _ => .refl
  | .comp t it e, a, b, z, h => by
    unfold evE
    rw [← h.free]
    split
    · refine (evI_le it h).bind fun _ _ => (goI_le (fun d z => ?_) _ _).bind fun _ _ => .refl
      cases q : asgT t d (wipeE a t.slots) with
      | none => exact .err
      | some a1 =>
        obtain ⟨b1, q1, q2⟩ := (h.wipe t.slots).asg t q
        rw [q1]
        exact (evE_le e q2).one
    · exact .refl
  | .compI t it c e, a, b, z, h => by
    unfold evE
    rw [← h.free]
    split
    · refine (evI_le it h).bind fun _ _ => (goI_le (fun d z => ?_) _ _).bind fun _ _ => .refl
      cases q : asgT t d (wipeE a t.slots) with
      | none => exact .err
      | some a1 =>
        obtain ⟨b1, q1, q2⟩ := (h.wipe t.slots).asg t q
        rw [q1]
        dsimp only
        rcases evE_le (Z := Z) c (z := z) q2 with q | q
        · rw [q]; exact .err
        · rw [q]
          cases evE Z c a1 z with
          | ok x z =>
            dsimp only
            cases truD x with
            | none => exact .refl
            | some k => cases k with
              | true => exact (evE_le e q2).one
              | false => exact .refl
          | exn _ _ => exact .refl
          | err => exact .refl
    · exact .refl
  | .comp2 t it t2 it2 e, a, b, z, h => by
    unfold evE
    rw [← h.free]
    split
    · refine (evI_le it h).bind fun _ _ => (goI_le (fun d z => ?_) _ _).bind fun _ _ => .refl
      cases q : asgT t d (wipeE a (t.slots ++ t2.slots)) with
      | none => exact .err
      | some a1 =>
        obtain ⟨b1, q1, q2⟩ := (h.wipe (t.slots ++ t2.slots)).asg t q
        rw [q1]
        dsimp only
        rcases evI_le (Z := Z) it2 (z := z) q2 with q | q
        · rw [q]; exact .err
        · rw [q]
          cases evI Z it2 a1 z with
          | ok v z =>
            refine goI_le (fun d z => ?_) v z
            cases q : asgT t2 d (wipeE a1 t2.slots) with
            | none => exact .err
            | some a2 =>
              obtain ⟨b2, q3, q4⟩ := (q2.wipe t2.slots).asg t2 q
              rw [q3]
              exact (evE_le e q4).one
          | exn _ _ => exact .refl
          | err => exact .refl
    · exact .refl
  | .attr x c k, a, b, z, h => by unfold evE; exact (evE_le x h).bind fun _ _ => .refl
  | .meth c f x es, a, b, z, h => by unfold evE; exact (evE_le x h).bind fun _ _ => RLe.refl.bind fun _ _ => (evEs_le es h).bind fun _ _ => .refl
  | .make c f es, a, b, z, h => by unfold evE; exact (evEs_le es h).bind fun _ _ => .refl
  | .newD t, a, b, z, h => .refl
  | .newL x, a, b, z, h => by unfold evE; exact (evE_le x h).bind fun _ _ => .refl
  | .lenL x, a, b, z, h => by unfold evE; exact (evE_le x h).bind fun _ _ => .refl
  | .isiL _ x, a, b, z, h => by unfold evE; exact (evE_le x h).bind fun _ _ => .refl
  | .isiC _ x, a, b, z, h => by unfold evE; exact (evE_le x h).bind fun _ _ => .refl
  | .srt x, a, b, z, h => by unfold evE; exact (evE_le x h).bind fun _ _ => .refl
  | .slcHL x y, a, b, z, h => by unfold evE; exact (evE_le x h).bind fun _ _ => (evE_le y h).bind fun _ _ => .refl
  | .scnt x y, a, b, z, h => by unfold evE; exact (evE_le x h).bind fun _ _ => (evE_le y h).bind fun _ _ => .refl
  | .srfd x y, a, b, z, h => by unfold evE; exact (evE_le x h).bind fun _ _ => (evE_le y h).bind fun _ _ => .refl
  | .kget _ _ x y, a, b, z, h => by unfold evE; exact (evE_le x h).bind fun _ _ => (evE_le y h).bind fun _ _ => .refl
  | .makeK c f es, a, b, z, h => by unfold evE; exact (evEs_le es h).bind fun _ _ => .refl
  | .dget t d k, a, b, z, h => by unfold evE; exact (evE_le d h).bind fun _ _ => (evE_le k h).bind fun _ _ => .refl
  | .dgetD t d k x, a, b, z, h => by unfold evE; exact (evE_le d h).bind fun _ _ => RLe.refl.bind fun _ _ => (evE_le k h).bind fun _ _ => (evE_le x h).bind fun _ _ => .refl
  | .din t n k d, a, b, z, h => by unfold evE; exact (evE_le k h).bind fun _ _ => (evE_le d h).bind fun _ _ => .refl
  | .sjoin x y, a, b, z, h => by
    unfold evE
    exact (evE_le x h).bind fun d _ => by
      cases d with
      | str s => exact (evE_le y h).bind fun _ _ => .refl
      | _ => exact .refl
theorem evEs_le {Z : Cxt} : ∀ (es : Cs) {a b : Sg} {z : Sto}, sgLe a b → RLe (evEs Z es a z) (evEs Z es b z)
  | .nil, a, b, z, h => .refl
  | .cons e es, a, b, z, h => by unfold evEs; exact (evE_le e h).bind fun _ _ => (evEs_le es h).bind fun _ _ => .refl
theorem evI_le {Z : Cxt} : ∀ (it : I) {a b : Sg} {z : Sto}, sgLe a b → RLe (evI Z it a z) (evI Z it b z)
  | .seq e, a, b, z, h => by unfold evI; exact (evE_le e h).bind fun _ _ => .refl
  | .rng1 e, a, b, z, h => by unfold evI; exact (evE_le e h).bind fun _ _ => .refl
  | .rng2 x y, a, b, z, h => by unfold evI; exact (evE_le x h).bind fun _ _ => (evE_le y h).bind fun _ _ => .refl
  | .enum e, a, b, z, h => by unfold evI; exact (evE_le e h).bind fun _ _ => .refl
  | .zip x y, a, b, z, h => by unfold evI; exact (evE_le x h).bind fun _ _ => (evE_le y h).bind fun _ _ => .refl
end
/-! ### statements -/
def flLe : Fl → Fl → Prop
  | .nx a, .nx b => sgLe a b
  | .rt d, .rt e => d = e
  | .bk a, .bk b => sgLe a b
  | .ct a, .ct b => sgLe a b
  | .xx x a, .xx y b => x = y ∧ sgLe a b
  | _, _ => False
theorem flLe.refl : ∀ {f : Fl}, flLe f f
  | .nx _ => sgLe.refl
  | .rt _ => rfl
  | .bk _ => sgLe.refl
  | .ct _ => sgLe.refl
  | .xx _ _ => ⟨rfl, sgLe.refl⟩
theorem flLe.trans : ∀ {f g h : Fl}, flLe f g → flLe g h → flLe f h
  | .nx _, .nx _, .nx _, a, b => sgLe.trans a b
  | .rt _, .rt _, .rt _, a, b => Eq.trans a b
  | .bk _, .bk _, .bk _, a, b => sgLe.trans a b
  | .ct _, .ct _, .ct _, a, b => sgLe.trans a b
  | .xx _ _, .xx _ _, .xx _ _, a, b => ⟨a.1.trans b.1, a.2.trans b.2⟩
/-- a run's end, up to what is forgotten -/
def FLe (r r' : Res Fl) : Prop := ∀ fl z, r = .ok fl z → ∃ fl', r' = .ok fl' z ∧ flLe fl fl'
theorem FLe.refl {r : Res Fl} : FLe r r := fun fl z h => ⟨fl, h, .refl⟩
theorem FLe.err {r : Res Fl} : FLe .err r := fun fl z h => by cases h
theorem FLe.of_nx {a b : Sg} {z : Sto} (h : sgLe a b) : FLe (.ok (.nx a) z) (.ok (.nx b) z) := fun fl z e => by
  cases e
  exact ⟨_, rfl, h⟩
theorem FLe.bS {α : Type} {r r' : Res α} {σ σ' : Sg} {f f' : α → Sto → Res Fl} (h : RLe r r') (hs : sgLe σ σ') (h2 : ∀ a z, FLe (f a z) (f' a z)) : FLe (EV.bS r σ f) (EV.bS r' σ' f') := by
  rcases h with rfl | rfl
  · exact .err
  · cases r' with
    | ok a z => exact h2 a z
    | exn x z =>
      intro fl z' e
      cases e
      exact ⟨.xx x σ', rfl, rfl, hs⟩
    | err => exact .err
theorem FLe.bind {r r' : Res Fl} {f f' : Fl → Sto → Res Fl} (h : FLe r r') (hx : ∀ x z, r = .exn x z → False) (h2 : ∀ a b z, flLe a b → FLe (f a z) (f' b z)) : FLe (r.bind f) (r'.bind f') := by
  cases r with
  | ok a z =>
    obtain ⟨b, rfl, q⟩ := h a z rfl
    exact h2 a b z q
  | exn x z => exact (hx x z rfl).elim
  | err => exact .err
/-- no exception leaves a statement but as a way out -/
def NoX (r : Res Fl) : Prop := ∀ x z, r ≠ .exn x z
theorem NoX.ok {fl : Fl} {z : Sto} : NoX (.ok fl z) := fun _ _ h => by cases h
theorem NoX.err : NoX .err := fun _ _ h => by cases h
theorem NoX.bS {α : Type} {r : Res α} {σ : Sg} {f : α → Sto → Res Fl} (h : ∀ a z, NoX (f a z)) : NoX (EV.bS r σ f) := by
  cases r with
  | ok a z => exact h a z
  | exn x z => exact .ok
  | err => exact .err
theorem NoX.bind {r : Res Fl} {f : Fl → Sto → Res Fl} (h : NoX r) (h2 : ∀ a z, NoX (f a z)) : NoX (r.bind f) := by
  cases r with
  | ok a z => exact h2 a z
  | exn x z => exact (h x z rfl).elim
  | err => exact .err
end EV

namespace EV
theorem noX_for {f : D → Sg → Sto → Res Fl} (h : ∀ d a z, NoX (f d a z)) : ∀ (ds : List D) (a : Sg) (z : Sto), NoX (forL f ds a z)
  | [], a, z => .ok
  | d :: ds, a, z => (h d a z).bind fun fl z => by
    cases fl with
    | nx a => exact noX_for h ds a z
    | ct a => exact noX_for h ds a z
    | _ => exact .ok
theorem noX_forR {f : D → Sg → Sto → Res Fl} (h : ∀ d a z, NoX (f d a z)) : ∀ (n : Nat) (lo : Int) (a : Sg) (z : Sto), NoX (forR f lo n a z)
  | 0, lo, a, z => .ok
  | n + 1, lo, a, z => (h (.int lo) a z).bind fun fl z => by
    cases fl with
    | nx a => exact noX_forR h n (lo + 1) a z
    | ct a => exact noX_forR h n (lo + 1) a z
    | _ => exact .ok
theorem noX_whl {c : Sg → Sto → Res Bool} {f : Sg → Sto → Res Fl} (h : ∀ a z, NoX (f a z)) : ∀ (n : Nat) (a : Sg) (z : Sto), NoX (whlF c f n a z)
  | 0, a, z => .err
  | n + 1, a, z => by
    unfold whlF
    refine .bS fun b z => ?_
    cases b with
    | false => exact .ok
    | true =>
      refine (h a z).bind fun fl z => ?_
      cases fl with
      | nx a => exact noX_whl h n a z
      | ct a => exact noX_whl h n a z
      | _ => exact .ok
theorem noX_one {o : Option Slot} {f : List D → Res Fl} (h : ∀ ds, NoX (f ds)) : NoX (match o with
    | some (.own ds) => f ds
    | _ => .err) := by
  split
  · exact h _
  · exact .err
mutual
theorem noX_S {Z : Cxt} : ∀ (s : S) (a : Sg) (z : Sto), NoX (evS Z s a z)
  | .set i e, a, z => by unfold evS; exact .bS fun _ _ => .ok
  | .own i e, a, z => by unfold evS; exact .bS fun d _ => by cases d <;> first | exact .ok | exact .err
  | .app i e, a, z => by
    unfold evS
    split
    · exact .bS fun d _ => by
        split
        · exact .ok
        · exact .err
    · exact .err
  | .ext i e, a, z => by
    unfold evS
    split
    · exact .bS fun d _ => by
        split
        · split
          · exact .ok
          · exact .err
        · exact .err
    · exact .err
  | .setI i k e, a, z => by
    unfold evS
    split
    · exact .bS fun d _ => .bS fun kd _ => by
        split
        · split
          · exact .ok
          · exact .err
        · exact .err
    · exact .err
  | .stI i k e, a, z => by
    unfold evS
    split
    · exact .bS fun d _ => by
        split
        · split
          · exact .ok
          · split
            · exact .ok
            · exact .err
        · exact .err
    · exact .err
  | .aug i o e, a, z => by
    unfold evS
    split
    · exact .bS fun d _ => by
        split
        · exact .ok
        · exact .ok
        · exact .err
    · exact .err
  | .tset t e, a, z => by
    unfold evS
    exact .bS fun d _ => by
      split
      · exact .ok
      · exact .err
  | .par i j x y, a, z => by unfold evS; exact .bS fun _ _ => .bS fun _ _ => .ok
  | .ex e, a, z => by unfold evS; exact .bS fun _ _ => .ok
  | .ret e, a, z => by unfold evS; exact .bS fun _ _ => .ok
  | .retN, a, z => by unfold evS; exact .ok
  | .ife c x y, a, z => by
    unfold evS
    exact .bS fun d _ => .bS fun k _ => by
      cases k with
      | true => exact noX_Ss x _ _
      | false => exact noX_Ss y _ _
  | .whl c b, a, z => by unfold evS; exact noX_whl (fun a z => noX_Ss b a z) _ _ _
  | .for_ t it b, a, z => by
    unfold evS
    exact .bS fun v z => by
      have h : ∀ (d : D) (a : Sg) (z : Sto), NoX (match asgT t d a with
        | some σ => evSs Z b σ z
        | none => .err) := fun d a z => by
          split
          · exact noX_Ss b _ _
          · exact .err
      cases v with
      | l ds => exact noX_for h ds _ _
      | r lo n => exact noX_forR h n lo _ _
  | .brk, a, z => by unfold evS; exact .ok
  | .cnt, a, z => by unfold evS; exact .ok
  | .pas, a, z => by unfold evS; exact .ok
  | .rai, a, z => by unfold evS; exact .err
  | .frz i, a, z => by
    unfold evS
    split
    · exact .ok
    · exact .ok
    · exact .err
  | .setA i c k e, a, z => by
    unfold evS
    exact .bS fun d _ => by
      split
      · split
        · split
          · exact .ok
          · exact .err
        · exact .err
      · exact .err
  | .appC e x, a, z => by
    unfold evS
    exact .bS fun u _ => by
      split
      · split
        · exact .bS fun _ _ => by
            split
            · split
              · exact .ok
              · exact .err
            · exact .err
        · exact .err
      · exact .err
  | .raise c es, a, z => by
    unfold evS
    exact .bS fun ds _ => by
      split
      · exact .ok
      · exact .err
  | .tryx b hs, a, z => by
    unfold evS
    refine (noX_Ss b a z).bind fun fl z => ?_
    cases fl with
    | xx x σ =>
      dsimp only
      split
      · split
        · split
          · exact .ok
          · exact .err
        · exact .err
      · exact .ok
    | _ => exact .ok
  | .dput t d k e, a, z => by
    unfold evS
    exact .bS fun _ _ => .bS fun _ _ => .bS fun _ _ => by
      split
      · split
        · exact .ok
        · exact .err
      · exact .err
theorem noX_Ss {Z : Cxt} : ∀ (ss : Ss) (a : Sg) (z : Sto), NoX (evSs Z ss a z)
  | .nil, a, z => by unfold evSs; exact .ok
  | .cons s ss, a, z => by
    unfold evSs
    exact (noX_S s a z).bind fun fl z => by
      cases fl with
      | nx a => exact noX_Ss ss a z
      | _ => exact .ok
end
theorem forL_le {f f' : D → Sg → Sto → Res Fl} (hx : ∀ d a z, NoX (f d a z)) (h : ∀ d a b z, sgLe a b → FLe (f d a z) (f' d b z)) : ∀ (ds : List D) {a b : Sg} {z : Sto}, sgLe a b → FLe (forL f ds a z) (forL f' ds b z)
  | [], a, b, z, q => .of_nx q
  | d :: ds, a, b, z, q => (h d a b z q).bind (fun x z e => hx d a _ x z e) fun fa fb z q => by
    cases fa <;> cases fb <;> first | exact (q : False).elim | exact forL_le hx h ds q | exact .of_nx q | (intro fl z e; cases e; exact ⟨_, rfl, q⟩)
theorem forR_le {f f' : D → Sg → Sto → Res Fl} (hx : ∀ d a z, NoX (f d a z)) (h : ∀ d a b z, sgLe a b → FLe (f d a z) (f' d b z)) : ∀ (n : Nat) (lo : Int) {a b : Sg} {z : Sto}, sgLe a b → FLe (forR f lo n a z) (forR f' lo n b z)
  | 0, lo, a, b, z, q => .of_nx q
  | n + 1, lo, a, b, z, q => (h _ a b z q).bind (fun x z e => hx _ a _ x z e) fun fa fb z q => by
    cases fa <;> cases fb <;> first | exact (q : False).elim | exact forR_le hx h n (lo + 1) q | exact .of_nx q | (intro fl z e; cases e; exact ⟨_, rfl, q⟩)
theorem whl_le {c : Sg → Sto → Res Bool} {f : Sg → Sto → Res Fl} (hc : ∀ a b z, sgLe a b → RLe (c a z) (c b z)) (hx : ∀ a z, NoX (f a z)) (h : ∀ a b z, sgLe a b → FLe (f a z) (f b z)) : ∀ (n : Nat) {a b : Sg} {z : Sto}, sgLe a b → FLe (whlF c f n a z) (whlF c f n b z)
  | 0, a, b, z, q => .err
  | n + 1, a, b, z, q => by
    unfold whlF
    refine FLe.bS (hc a b z q) q fun k z => ?_
    cases k with
    | false => exact .of_nx q
    | true =>
      refine (h a b z q).bind (fun x z e => hx a _ x z e) fun fa fb z q => ?_
      cases fa <;> cases fb <;> first | exact (q : False).elim | exact whl_le hc hx h n q | exact .of_nx q | (intro fl z e; cases e; exact ⟨_, rfl, q⟩)
mutual
theorem evS_le {Z : Cxt} : ∀ (s : S) {a b : Sg} {z : Sto}, sgLe a b → FLe (evS Z s a z) (evS Z s b z)
  | .set i e, a, b, z, h => by unfold evS; exact FLe.bS (evE_le e h) h fun _ _ => .of_nx (h.set i)
  | .own i e, a, b, z, h => by unfold evS; exact FLe.bS (evE_le e h) h fun d _ => by cases d <;> first | exact .of_nx (h.set i) | exact .err
  | .app i e, a, b, z, h => by
    unfold evS
    cases q : a[i]? with
    | none => exact .err
    | some s => cases s with
      | none => exact .err
      | some s =>
        rw [h.get q]
        cases s with
        | own ds =>
          refine FLe.bS (evE_le e h) h fun d _ => ?_
          try dsimp only
          split
          · exact .of_nx (h.set i)
          · exact .err
        | _ => exact .err
  | .ext i e, a, b, z, h => by
    unfold evS
    cases q : a[i]? with
    | none => exact .err
    | some s => cases s with
      | none => exact .err
      | some s =>
        rw [h.get q]
        cases s with
        | own ds =>
          refine FLe.bS (evE_le e h) h fun d _ => ?_
          cases d <;> first | exact .err | skip
          dsimp only
          split
          · exact .of_nx (h.set i)
          · exact .err
        | _ => exact .err
  | .setI i k e, a, b, z, h => by
    unfold evS
    cases q : a[i]? with
    | none => exact .err
    | some s => cases s with
      | none => exact .err
      | some s =>
        rw [h.get q]
        cases s with
        | own ds =>
          refine FLe.bS (evE_le e h) h fun d _ => FLe.bS (evE_le k h) h fun kd _ => ?_
          cases kd <;> first | exact .err | skip
          dsimp only
          split
          · exact .of_nx (h.set i)
          · exact .err
        | _ => exact .err
  | .stI i k e, a, b, z, h => by
    unfold evS
    cases q : a[i]? with
    | none => exact .err
    | some s => cases s with
      | none => exact .err
      | some s =>
        rw [h.get q]
        cases s with
        | val d => cases d with
          | strm =>
            refine FLe.bS (evE_le e h) h fun d z => ?_
            try dsimp only
            split
            · split
              · exact .of_nx h
              · split
                · exact .of_nx h
                · exact .err
            · exact .err
          | _ => exact .err
        | _ => exact .err
  | .aug i o e, a, b, z, h => by
    unfold evS
    cases q : a[i]? with
    | none => exact .err
    | some s => cases s with
      | none => exact .err
      | some s =>
        rw [h.get q]
        cases s with
        | val x =>
          refine FLe.bS (evE_le e h) h fun d _ => ?_
          try dsimp only
          split
          · exact .of_nx (h.set i)
          · exact .of_nx (h.set i)
          · exact .err
        | _ => exact .err
  | .tset t e, a, b, z, h => by
    unfold evS
    exact FLe.bS (evE_le e h) h fun d _ => by
      cases q : asgT t d a with
      | none => exact .err
      | some a1 =>
        obtain ⟨b1, q1, q2⟩ := h.asg t q
        rw [q1]
        exact .of_nx q2
  | .par i j x y, a, b, z, h => by unfold evS; exact FLe.bS (evE_le x h) h fun _ _ => FLe.bS (evE_le y h) h fun _ _ => .of_nx ((h.set i).set j)
  | .ex e, a, b, z, h => by unfold evS; exact FLe.bS (evE_le e h) h fun _ _ => .of_nx h
  | .ret e, a, b, z, h => by unfold evS; exact FLe.bS (evE_le e h) h fun _ _ => .refl
  | .retN, a, b, z, h => by unfold evS; exact .refl
  | .ife c x y, a, b, z, h => by
    unfold evS
    exact FLe.bS (evE_le c h) h fun d _ => FLe.bS .refl h fun k _ => by
      cases k with
      | true => exact evSs_le x h
      | false => exact evSs_le y h
  | .whl c x, a, b, z, h => by
    unfold evS
    exact whl_le (c := fun σ z => (evE Z c σ z).bind fun x z => lift (truD x) z) (f := fun σ z => evSs Z x σ z) (fun a b z h => RLe.bind (f := fun x z => lift (truD x) z) (f' := fun x z => lift (truD x) z) (evE_le (z := z) c h) fun _ _ => .refl) (fun a z => noX_Ss x a z) (fun a b z h => evSs_le x h) _ h
  | .for_ t it x, a, b, z, h => by
    unfold evS
    exact FLe.bS (evI_le it h) h fun v z => by
      have hx : ∀ (d : D) (a : Sg) (z : Sto), NoX (match asgT t d a with
        | some σ => evSs Z x σ z
        | none => .err) := fun d a z => by
          split
          · exact noX_Ss x _ _
          · exact .err
      have hm : ∀ (d : D) (a b : Sg) (z : Sto), sgLe a b → FLe (match asgT t d a with
        | some σ => evSs Z x σ z
        | none => .err) (match asgT t d b with
        | some σ => evSs Z x σ z
        | none => .err) := fun d a b z h => by
          cases q : asgT t d a with
          | none => exact .err
          | some a1 =>
            obtain ⟨b1, q1, q2⟩ := h.asg t q
            rw [q1]
            exact evSs_le x q2
      cases v with
      | l ds => exact forL_le hx hm ds h
      | r lo n => exact forR_le hx hm n lo h
  | .brk, a, b, z, h => by unfold evS; exact fun fl z e => by cases e; exact ⟨_, rfl, h⟩
  | .cnt, a, b, z, h => by unfold evS; exact fun fl z e => by cases e; exact ⟨_, rfl, h⟩
  | .pas, a, b, z, h => by unfold evS; exact .of_nx h
  | .rai, a, b, z, h => by unfold evS; exact .err
  | .frz i, a, b, z, h => by
    unfold evS
    cases q : a[i]? with
    | none => exact .err
    | some s => cases s with
      | none => exact .err
      | some s =>
        rw [h.get q]
        cases s with
        | own ds => exact .of_nx (h.set i)
        | val d => exact .of_nx h
        | dic _ => exact .err
  | .setA i c k e, a, b, z, h => by
    unfold evS
    refine FLe.bS (evE_le e h) h fun d z => ?_
    cases q : a[i]? with
    | none => exact .err
    | some s => cases s with
      | none => exact .err
      | some s =>
        rw [h.get q]
        cases s with
        | val x =>
          dsimp only
          split
          · split
            · exact .of_nx h
            · exact .err
          · exact .err
        | _ => exact .err
  | .appC e x, a, b, z, h => by
    unfold evS
    refine FLe.bS (evE_le e h) h fun u z => ?_
    split
    · split
      · refine FLe.bS (evE_le x h) h fun w z => ?_
        split
        · split
          · exact .of_nx h
          · exact .err
        · exact .err
      · exact .err
    · exact .err
  | .raise c es, a, b, z, h => by
    unfold evS
    refine FLe.bS (evEs_le es h) h fun ds z => ?_
    split
    · intro fl z' e
      cases e
      exact ⟨_, rfl, rfl, h⟩
    · exact .err
  | .tryx t hs, a, b, z, h => by
    unfold evS
    refine (evSs_le t h).bind (fun x z e => noX_Ss t a _ x z e) fun fa fb z q => ?_
    cases fa <;> cases fb <;> first | exact (q : False).elim | exact (fun fl z e => by cases e; exact ⟨_, rfl, q⟩) | skip
    obtain ⟨rfl, q⟩ := q
    dsimp only
    rw [q.len]
    split
    · split
      · exact .refl
      · exact .err
    · intro fl z' e
      cases e
      exact ⟨_, rfl, rfl, q⟩
  | .dput t d k e, a, b, z, h => by
    unfold evS
    refine FLe.bS (evE_le e h) h fun w z => FLe.bS (evE_le d h) h fun x z => FLe.bS (evE_le k h) h fun y z => ?_
    split
    · split
      · exact .of_nx h
      · exact .err
    · exact .err
theorem evSs_le {Z : Cxt} : ∀ (ss : Ss) {a b : Sg} {z : Sto}, sgLe a b → FLe (evSs Z ss a z) (evSs Z ss b z)
  | .nil, a, b, z, h => by unfold evSs; exact .of_nx h
  | .cons s ss, a, b, z, h => by
    unfold evSs
    exact (evS_le s h).bind (fun x z e => noX_S s a _ x z e) fun fa fb z q => by
      cases fa <;> cases fb <;> first | exact (q : False).elim | exact evSs_le ss q | (intro fl z e; cases e; exact ⟨_, rfl, q⟩)
end
/-! ### a run, up to what is forgotten -/
def Rn (Z : Cxt) (ss : Ss) (σ : Sg) (z : Sto) (fl : Fl) (z' : Sto) : Prop := ∃ fl', evSs Z ss σ z = .ok fl' z' ∧ flLe fl fl'
def Rs (Z : Cxt) (s : S) (σ : Sg) (z : Sto) (fl : Fl) (z' : Sto) : Prop := ∃ fl', evS Z s σ z = .ok fl' z' ∧ flLe fl fl'
theorem Rn.nil {Z : Cxt} {σ σ' : Sg} {z : Sto} (h : sgLe σ' σ) : Rn Z .nil σ z (.nx σ') z := ⟨.nx σ, rfl, h⟩
theorem Rn.cons {Z : Cxt} {s : S} {ss : Ss} {σ σ1 : Sg} {z z1 z2 : Sto} {fl : Fl} (h : Rs Z s σ z (.nx σ1) z1) (h2 : Rn Z ss σ1 z1 fl z2) : Rn Z (.cons s ss) σ z fl z2 := by
  obtain ⟨f1, e1, q1⟩ := h
  obtain ⟨f2, e2, q2⟩ := h2
  cases f1 with
  | nx σ1' =>
    obtain ⟨f3, e3, q3⟩ := evSs_le ss q1 f2 z2 e2
    refine ⟨f3, ?_, q2.trans q3⟩
    unfold evSs
    rw [e1]
    exact e3
  | _ => exact q1.elim
theorem Rn.out {Z : Cxt} {s : S} {ss : Ss} {σ : Sg} {z z1 : Sto} {fl : Fl} (h : Rs Z s σ z fl z1) (hn : ∀ a, fl ≠ .nx a) : Rn Z (.cons s ss) σ z fl z1 := by
  obtain ⟨f1, e1, q1⟩ := h
  refine ⟨f1, ?_, q1⟩
  unfold evSs
  rw [e1]
  cases f1 with
  | nx σ1' => cases fl <;> first | exact q1.elim | exact (hn _ rfl).elim
  | _ => rfl
theorem Rn.ret {Z : Cxt} {s : S} {ss : Ss} {σ : Sg} {z z1 : Sto} {d : D} (h : Rs Z s σ z (.rt d) z1) : Rn Z (.cons s ss) σ z (.rt d) z1 := .out h fun _ e => by cases e
theorem Rn.weak {Z : Cxt} {ss : Ss} {σ σ1 σ2 : Sg} {z z1 : Sto} (h : Rn Z ss σ z (.nx σ1) z1) (q : sgLe σ2 σ1) : Rn Z ss σ z (.nx σ2) z1 := by
  obtain ⟨f, e, q1⟩ := h
  refine ⟨f, e, flLe.trans (g := .nx σ1) q q1⟩
theorem Rs.weak {Z : Cxt} {s : S} {σ σ1 σ2 : Sg} {z z1 : Sto} (h : Rs Z s σ z (.nx σ1) z1) (q : sgLe σ2 σ1) : Rs Z s σ z (.nx σ2) z1 := by
  obtain ⟨f, e, q1⟩ := h
  refine ⟨f, e, flLe.trans (g := .nx σ1) q q1⟩
theorem Rs.of {Z : Cxt} {s : S} {σ : Sg} {z z1 : Sto} {fl : Fl} (h : evS Z s σ z = .ok fl z1) : Rs Z s σ z fl z1 := ⟨fl, h, .refl⟩
theorem Rs.of_le {Z : Cxt} {s : S} {σ σ1 σ2 : Sg} {z z1 : Sto} (h : evS Z s σ z = .ok (.nx σ1) z1) (q : sgLe σ2 σ1) : Rs Z s σ z (.nx σ2) z1 := ⟨_, h, q⟩
theorem Rn.of {Z : Cxt} {ss : Ss} {σ : Sg} {z z1 : Sto} {fl : Fl} (h : evSs Z ss σ z = .ok fl z1) : Rn Z ss σ z fl z1 := ⟨fl, h, .refl⟩
theorem Rn.of_le {Z : Cxt} {ss : Ss} {σ σ1 σ2 : Sg} {z z1 : Sto} (h : evSs Z ss σ z = .ok (.nx σ1) z1) (q : sgLe σ2 σ1) : Rn Z ss σ z (.nx σ2) z1 := ⟨_, h, q⟩
theorem Rn.rt {Z : Cxt} {ss : Ss} {σ : Sg} {z z1 : Sto} {d : D} (h : Rn Z ss σ z (.rt d) z1) : runS (evSs Z ss σ z) = .ok d z1 := by
  obtain ⟨f, e, q⟩ := h
  rw [e]
  cases f <;> first | exact q.elim | skip
  cases q
  rfl
theorem Rn.none {Z : Cxt} {ss : Ss} {σ σ1 : Sg} {z z1 : Sto} (h : Rn Z ss σ z (.nx σ1) z1) : runS (evSs Z ss σ z) = .ok .non z1 := by
  obtain ⟨f, e, q⟩ := h
  rw [e]
  cases f <;> first | exact q.elim | skip
  rfl
theorem Rs.iteT {Z : Cxt} {c : C} {a b : Ss} {σ : Sg} {z z1 z2 : Sto} {d : D} {fl : Fl} (h : evE Z c σ z = .ok d z1) (ht : truD d = some true) (h2 : Rn Z a σ z1 fl z2) : Rs Z (.ife c a b) σ z fl z2 := by
  obtain ⟨f, e, q⟩ := h2
  exact ⟨f, by rw [evS_if h ht]; exact e, q⟩
theorem Rs.iteF {Z : Cxt} {c : C} {a b : Ss} {σ : Sg} {z z1 z2 : Sto} {d : D} {fl : Fl} (h : evE Z c σ z = .ok d z1) (ht : truD d = some false) (h2 : Rn Z b σ z1 fl z2) : Rs Z (.ife c a b) σ z fl z2 := by
  obtain ⟨f, e, q⟩ := h2
  exact ⟨f, by rw [evS_if h ht]; exact e, q⟩
theorem Rs.iteN {Z : Cxt} {c : C} {a : Ss} {σ : Sg} {z z1 : Sto} {d : D} (h : evE Z c σ z = .ok d z1) (ht : truD d = some false) : Rs Z (.ife c a .nil) σ z (.nx σ) z1 := Rs.iteF h ht (.nil sgLe.refl)
/-- a def's answer by its run -/
theorem call_rt {T : Tab} {k f : Nat} {ds : List D} {z z' : Sto} {d : D} {fd : Fn} (h : T.fns[f]? = some fd) (hl : ds.length = fd.np) (r : Rn ⟨callF T k, T.con, T.W⟩ fd.body (ds.map (fun d => some (Slot.val d)) ++ List.replicate (fd.nn - fd.np) none) z (.rt d) z') : callF T (k + 1) f ds z = .ok d z' := by
  rw [callF_eq h hl]
  exact r.rt
theorem call_nx {T : Tab} {k f : Nat} {ds : List D} {z z' : Sto} {σ : Sg} {fd : Fn} (h : T.fns[f]? = some fd) (hl : ds.length = fd.np) (r : Rn ⟨callF T k, T.con, T.W⟩ fd.body (ds.map (fun d => some (Slot.val d)) ++ List.replicate (fd.nn - fd.np) none) z (.nx σ) z') : callF T (k + 1) f ds z = .ok .non z' := by
  rw [callF_eq h hl]
  exact r.none
/-! ### walks -/
def forB (Z : Cxt) (t : Tg) (b : Ss) : D → Sg → Sto → Res Fl := fun d σ z => match asgT t d σ with
  | some σ => evSs Z b σ z
  | none => .err
theorem forB_le {Z : Cxt} {t : Tg} {b : Ss} (d : D) (x y : Sg) (z : Sto) (h : sgLe x y) : FLe (forB Z t b d x z) (forB Z t b d y z) := by
  unfold forB
  cases q : asgT t d x with
  | none => exact .err
  | some a1 =>
    obtain ⟨b1, q1, q2⟩ := h.asg t q
    rw [q1]
    exact evSs_le b q2
/-- one turn: from one state to another -/
def Tn (Z : Cxt) (t : Tg) (b : Ss) (d : D) (σ : Sg) (z : Sto) (σ' : Sg) (z' : Sto) : Prop := ∃ σ1, asgT t d σ = some σ1 ∧ (Rn Z b σ1 z (.nx σ') z' ∨ Rn Z b σ1 z (.ct σ') z')
theorem Tn.of {Z : Cxt} {t : Tg} {b : Ss} {d : D} {σ σ1 σ' : Sg} {z z' : Sto} (h : asgT t d σ = some σ1) (h2 : Rn Z b σ1 z (.nx σ') z') : Tn Z t b d σ z σ' z' := ⟨σ1, h, .inl h2⟩
theorem Rs.for_ {α β : Type} {Z : Cxt} {t : Tg} {it : I} {b : Ss} {h : α → D} {σc : β → Sg} (P : β → List α → Sto → Prop)
    (turn : ∀ acc x rest z, P acc (x :: rest) z → ∃ acc' z', Tn Z t b (h x) (σc acc) z (σc acc') z' ∧ P acc' rest z') :
    ∀ {l : List α} {a : β} {z z0 : Sto}, evI Z it (σc a) z0 = .ok (.l (l.map h)) z → P a l z → ∃ a' z', Rs Z (.for_ t it b) (σc a) z0 (.nx (σc a')) z' ∧ P a' [] z' := by
  have go : ∀ (l : List α) (a : β) (z : Sto) (σ : Sg), sgLe (σc a) σ → P a l z → ∃ a' z' σ', forL (forB Z t b) (l.map h) σ z = .ok (.nx σ') z' ∧ sgLe (σc a') σ' ∧ P a' [] z' := by
    intro l
    induction l with
    | nil => exact fun a z σ q p => ⟨a, z, σ, rfl, q, p⟩
    | cons x l ih =>
      intro a z σ q p
      obtain ⟨a1, z1, ⟨σ1, e1, r⟩, p1⟩ := turn a x l z p
      obtain ⟨σ2, e2, q2⟩ := q.asg t e1
      have step : ∃ σ3, (forB Z t b (h x) σ z = .ok (.nx σ3) z1 ∨ forB Z t b (h x) σ z = .ok (.ct σ3) z1) ∧ sgLe (σc a1) σ3 := by
        unfold forB
        rw [e2]
        rcases r with ⟨f, e, qf⟩ | ⟨f, e, qf⟩
        · obtain ⟨f', e', qf'⟩ := evSs_le b q2 f z1 e
          have := qf.trans qf'
          cases f' <;> first | exact this.elim | exact ⟨_, .inl e', this⟩
        · obtain ⟨f', e', qf'⟩ := evSs_le b q2 f z1 e
          have := qf.trans qf'
          cases f' <;> first | exact this.elim | exact ⟨_, .inr e', this⟩
      obtain ⟨σ3, e3, q3⟩ := step
      obtain ⟨a', z', σ', e4, q4, p4⟩ := ih a1 z1 σ3 q3 p1
      refine ⟨a', z', σ', ?_, q4, p4⟩
      show (forB Z t b (h x) σ z).bind _ = _
      rcases e3 with e3 | e3
      · rw [e3]; exact e4
      · rw [e3]; exact e4
  intro l a z z0 it p
  obtain ⟨a', z', σ', e, q, p'⟩ := go l a z _ sgLe.refl p
  exact ⟨a', z', ⟨_, run_for it e, q⟩, p'⟩
theorem Rs.forR_ {β : Type} {Z : Cxt} {t : Tg} {it : I} {b : Ss} {σc : β → Sg} {lo : Int} {n : Nat} (P : β → Nat → Sto → Prop)
    (turn : ∀ acc i z, i < n → P acc i z → ∃ acc' z', Tn Z t b (.int (lo + (i : Nat))) (σc acc) z (σc acc') z' ∧ P acc' (i + 1) z') :
    ∀ {a : β} {z z0 : Sto}, evI Z it (σc a) z0 = .ok (.r lo n) z → P a 0 z → ∃ a' z', Rs Z (.for_ t it b) (σc a) z0 (.nx (σc a')) z' ∧ P a' n z' := by
  have go : ∀ (j i : Nat) (a : β) (z : Sto) (σ : Sg), i + j = n → sgLe (σc a) σ → P a i z → ∃ a' z' σ', forR (forB Z t b) (lo + (i : Nat)) j σ z = .ok (.nx σ') z' ∧ sgLe (σc a') σ' ∧ P a' n z' := by
    intro j
    induction j with
    | zero => exact fun i a z σ hi q p => ⟨a, z, σ, rfl, q, by rw [← hi]; exact p⟩
    | succ j ih =>
      intro i a z σ hi q p
      obtain ⟨a1, z1, ⟨σ1, e1, r⟩, p1⟩ := turn a i z (by omega) p
      obtain ⟨σ2, e2, q2⟩ := q.asg t e1
      have step : ∃ σ3, (forB Z t b (.int (lo + (i : Nat))) σ z = .ok (.nx σ3) z1 ∨ forB Z t b (.int (lo + (i : Nat))) σ z = .ok (.ct σ3) z1) ∧ sgLe (σc a1) σ3 := by
        unfold forB
        rw [e2]
        rcases r with ⟨f, e, qf⟩ | ⟨f, e, qf⟩
        · obtain ⟨f', e', qf'⟩ := evSs_le b q2 f z1 e
          have := qf.trans qf'
          cases f' <;> first | exact this.elim | exact ⟨_, .inl e', this⟩
        · obtain ⟨f', e', qf'⟩ := evSs_le b q2 f z1 e
          have := qf.trans qf'
          cases f' <;> first | exact this.elim | exact ⟨_, .inr e', this⟩
      obtain ⟨σ3, e3, q3⟩ := step
      obtain ⟨a', z', σ', e4, q4, p4⟩ := ih (i + 1) a1 z1 σ3 (by omega) q3 p1
      rw [show lo + ((i + 1 : Nat) : Int) = lo + (i : Nat) + 1 by omega] at e4
      refine ⟨a', z', σ', ?_, q4, p4⟩
      show (forB Z t b (.int (lo + (i : Nat))) σ z).bind _ = _
      rcases e3 with e3 | e3
      · rw [e3]; exact e4
      · rw [e3]; exact e4
  intro a z z0 it p
  obtain ⟨a', z', σ', e, q, p'⟩ := go n 0 a z _ (by omega) sgLe.refl p
  rw [show lo + ((0 : Nat) : Int) = lo by omega] at e
  exact ⟨a', z', ⟨_, run_for it e, q⟩, p'⟩
/-- a walk that leaves the store as it is: a fold -/
theorem Rs.fold {α β : Type} {Z : Cxt} {t : Tg} {it : I} {b : Ss} {h : α → D} (σc : β → Sg) (step : β → α → β) (Inv : β → List α → Prop) {l : List α} {a : β} {z z0 : Sto}
    (hi : evI Z it (σc a) z0 = .ok (.l (l.map h)) z) (h0 : Inv a l)
    (turn : ∀ acc x rest, Inv acc (x :: rest) → Tn Z t b (h x) (σc acc) z (σc (step acc x)) z ∧ Inv (step acc x) rest) : Rs Z (.for_ t it b) (σc a) z0 (.nx (σc (l.foldl step a))) z ∧ Inv (l.foldl step a) [] := by
  obtain ⟨a', z', r, p, hz, hp⟩ := Rs.for_ (h := h) (σc := σc) (fun acc rest z1 => Inv acc rest ∧ z1 = z ∧ rest.foldl step acc = l.foldl step a) (fun acc x rest z1 ⟨p, hz, hf⟩ => by
    subst hz
    obtain ⟨r, q⟩ := turn acc x rest p
    exact ⟨step acc x, _, r, q, rfl, hf⟩) hi ⟨h0, rfl, rfl⟩
  subst hz
  rw [List.foldl_nil] at hp
  subst hp
  exact ⟨r, p⟩
theorem Rs.foldR {β : Type} {Z : Cxt} {t : Tg} {it : I} {b : Ss} (σc : β → Sg) (step : β → Nat → β) (Inv : β → Nat → Prop) {n : Nat} {a : β} {z z0 : Sto}
    (hi : evI Z it (σc a) z0 = .ok (.r 0 n) z) (h0 : Inv a 0)
    (turn : ∀ acc i, i < n → Inv acc i → Tn Z t b (.int (i : Nat)) (σc acc) z (σc (step acc i)) z ∧ Inv (step acc i) (i + 1)) : Rs Z (.for_ t it b) (σc a) z0 (.nx (σc ((List.range n).foldl step a))) z ∧ Inv ((List.range n).foldl step a) n := by
  obtain ⟨a', z', r, p, hz, hp⟩ := Rs.forR_ (σc := σc) (fun acc i z1 => Inv acc i ∧ z1 = z ∧ acc = (List.range i).foldl step a) (fun acc i z1 hj ⟨p, hz, hf⟩ => by
    subst hz
    obtain ⟨r, q⟩ := turn acc i hj p
    refine ⟨step acc i, _, ?_, q, rfl, ?_⟩
    · rw [show (0 : Int) + (i : Nat) = (i : Nat) by omega]; exact r
    · rw [List.range_succ, List.foldl_append, ← hf]; rfl) hi ⟨h0, rfl, rfl⟩
  subst hz hp
  exact ⟨r, p⟩
end EV

namespace LW
open EV
variable {k : Nat}
theorem int31 (i : Int) : Pure L.T (k + 1) 31 [.int i] (.bl true) := isInt_int rfl i
theorem int22 (i : Int) : Pure L.T (k + 1) 22 [.int i] (.bl true) := isInt_int rfl i
theorem rational30 (q : Rat) : Pure L.T (k + 2) 30 [R q] (.bl true) := by
  refine pure_of (fd := f30) rfl rfl fun z => ?_
  have hd : (0 : Int) < q.den := by have := q.den_pos; omega
  have hg : ((Nat.gcd q.num.natAbs (q.den : Int).natAbs : Nat) : Int) == 1 := by
    rw [Int.natAbs_natCast, q.reduced]; rfl
  simp [f30, b30, evSs, evS, evE, evEs, hasBor, isBor, R, isiD, truD, biD, lenD, cmpD, eqD, D.pln, D.plns, D.dep, D.eqv, asgT, asgTs, callE_pure (int31 (k := k) _), hd]
  have := q.reduced
  simp [Nat.Coprime] at this
  simp [this, q.den_pos]
theorem chance29 (q : Rat) (h1 : 0 < q.num) (h2 : q.den ≤ 60) : Pure L.T (k + 3) 29 [R q] (.bl true) := by
  refine pure_of (fd := f29) rfl rfl fun z => ?_
  have c10 : L.T.con[10]? = some (.int 60) := rfl
  have h2' : (q.den : Int) ≤ 60 := by omega
  have e : R q = .tup [.int q.num, .int (q.den : Int)] := rfl
  have p := rational30 (k := k) q
  rw [e] at p ⊢
  simp [f29, b29, evSs, evS, evE, evEs, hasBor, isBor, truD, cmpD, idxD, L2.atI, L2.ixN, callE_pure p, h1, c10, h2']
theorem letter23 {c : Nat} (h : 97 ≤ c ∧ c ≤ 122) : Pure L.T (k + 1) 23 [.str [c]] (.bl true) := by
  refine pure_of (fd := f23) rfl rfl fun z => ?_
  have c3 : L.T.con[3]? = some (.str [97, 98, 99, 100, 101, 102, 103, 104, 105, 106, 107, 108, 109, 110, 111, 112, 113, 114, 115, 116, 117, 118, 119, 120, 121, 122]) := rfl
  have m : c ∈ [97, 98, 99, 100, 101, 102, 103, 104, 105, 106, 107, 108, 109, 110, 111, 112, 113, 114, 115, 116, 117, 118, 119, 120, 121, 122] := by
    simp; omega
  simp only [f23, b23, evSs, evS, evE, evEs, List.map_cons, List.map_nil, List.replicate_zero, Nat.sub_self, List.append_nil, List.cons_append, List.nil_append, List.getElem?_cons_zero, Res.bind_ok, bS_ok, isi_str_str, lift_some, truD, biD, lenD, Option.map_some, cmpD, eqD, D.pln, D.dep, D.eqv, c3, inD, m, decide_true]
  simp
theorem letter23i (i : Int) : Pure L.T (k + 1) 23 [.int i] (.bl false) := by
  refine pure_of (fd := f23) rfl rfl fun z => ?_
  simp [f23, b23, evSs, evS, evE, isi_str_int, truD]
theorem index14 {i n : Int} (h : 0 ≤ i ∧ i < n) : Pure L.T (k + 2) 14 [.int i, .int n] (.bl true) := by
  refine pure_of (fd := f14) rfl rfl fun z => ?_
  simp [f14, b14, evSs, evS, evE, evEs, hasBor, isBor, truD, cmpD, callE_pure (int22 (k := k) _), h.1, h.2]
end LW

namespace LW
open EV
/-! ### grammars as data -/
inductive Sym where
  | l (c : Nat)
  | v (i : Nat)
def Sym.d : Sym → D
  | .l c => .str [c]
  | .v i => .int (i : Nat)
abbrev Rul := Rat × List Sym
def ruleD (r : Rul) : D := .tup [R r.1, .tup (r.2.map Sym.d)]
def rulesD (rs : List Rul) : D := .tup (rs.map ruleD)
def gramD (g : List (List Rul)) : D := .tup (g.map rulesD)
def okSym (n : Nat) : Sym → Prop
  | .l c => 97 ≤ c ∧ c ≤ 122
  | .v i => i < n
structure okRul (n : Nat) (r : Rul) : Prop where
  q : Q60 1 0 r.1
  p : 0 < r.1.num
  d : r.1.den ≤ 60
  l : r.2.length ≤ 4
  s : ∀ s ∈ r.2, okSym n s
variable {k : Nat}
theorem rule28 {n : Nat} {r : Rul} (h : okRul n r) : Pure L.T (k + 4) 28 [ruleD r, .int (n : Nat)] (.bl true) := by
  refine pure_of (fd := f28) rfl rfl fun z => ?_
  have c9 : L.T.con[9]? = some (.int 4) := rfl
  have hl : ¬ (4 : Int) < ((r.2.map Sym.d).length : Nat) := by rw [List.length_map]; have := h.l; omega
  have e1 : evS ⟨callF L.T (k + 3), L.T.con, L.T.W⟩ (.ife (.or (.not (.isi .tuple (.var 0))) (.or (.cmp .ne (.bi .len (.cons (.var 0) (.nil))) (.int (2))) (.one (.not (.call 29 (.cons (.idx (.var 0) (.int (0))) (.nil))))))) (.cons (.ret (.bl false)) (.nil)) (.nil)) [some (.val (ruleD r)), some (.val (.int (n : Nat))), none] z = .ok (.nx [some (.val (ruleD r)), some (.val (.int (n : Nat))), none]) z := by
    simp [ruleD, evSs, evS, evE, evEs, hasBor, isBor, isi_tuple_tup, truD, biD, lenD, cmpD, eqD, D.pln, D.dep, D.eqv, idxD, L2.atI, L2.ixN, callE_pure (chance29 (k := k) r.1 h.p h.d)]
  have e2 : evS ⟨callF L.T (k + 3), L.T.con, L.T.W⟩ (.ife (.or (.not (.isi .tuple (.idx (.var 0) (.int (1))))) (.one (.cmp .gt (.bi .len (.cons (.idx (.var 0) (.int (1))) (.nil))) (.glo 9)))) (.cons (.ret (.bl false)) (.nil)) (.nil)) [some (.val (ruleD r)), some (.val (.int (n : Nat))), none] z = .ok (.nx [some (.val (ruleD r)), some (.val (.int (n : Nat))), none]) z := by
    have hl2 := h.l
    simp [ruleD, evSs, evS, evE, evEs, hasBor, isBor, isi_tuple_tup, truD, biD, lenD, cmpD, idxD, L2.atI, L2.ixN, c9]
    rw [show decide ((4 : Int) < (r.2.length : Nat)) = false from decide_eq_false (by omega)]
  have it : evI ⟨callF L.T (k + 3), L.T.con, L.T.W⟩ (.seq (.idx (.var 0) (.int (1)))) [some (.val (ruleD r)), some (.val (.int (n : Nat))), none] z = .ok (.l (r.2.map Sym.d)) z := evI_tup rfl
  have e3 := all_true (t := .nm 2) (e := .or (.call 23 (.cons (.var 2) (.nil))) (.one (.call 14 (.cons (.var 2) (.cons (.var 1) (.nil)))))) it rfl (by rw [List.length_map]; have := h.l; unfold lim; omega) (fun d hd => by
    obtain ⟨s, hs, rfl⟩ := List.mem_map.mp hd
    refine ⟨_, rfl, ?_⟩
    have o := h.s s hs
    cases s with
    | l c =>
      simp [wipeE, Tg.slots, Sym.d, evE, evEs, hasBor, isBor, callE_pure (letter23 (k := k + 2) o), truD]
    | v i =>
      have o : i < n := o
      simp [wipeE, Tg.slots, Sym.d, evE, evEs, hasBor, isBor, callE_pure (letter23i (k := k + 2) _), truD, callE_pure (index14 (k := k + 1) (i := (i : Nat)) (n := (n : Nat)) ⟨by omega, by omega⟩)])
  exact run_same e1 (run_same e2 (run_rt (evS_ret e3)))
/-- a variable's rules -/
structure okRules (n : Nat) (rs : List Rul) : Prop where
  a : 1 ≤ rs.length
  b : rs.length ≤ 4
  r : ∀ r ∈ rs, okRul n r
  s : (rs.map (·.1)).sum = 1
  t : (rs.map fun r => r.2.length).sum ≤ 14
theorem low24 : LowOk L.T (k + 1) 24 := reduced_ok (f := 24) rfl
theorem plus16 {a b : Rat} (ha : Sm a) (hb : Sm b) : Pure L.T (k + 2) 16 [R a, R b] (R (a + b)) := plus_sm (f := 16) (fl := 24) rfl low24 ha hb
theorem R_one : R 1 = .tup [.int 1, .int 1] := rfl
theorem R_zero : R 0 = .tup [.int 0, .int 1] := rfl
theorem con1 : L.T.con[1]? = some (R 0) := rfl
theorem con2 : L.T.con[2]? = some (R 1) := rfl
def rlen : D → Int
  | .tup [_, .tup ds] => ((ds.length : Nat) : Int)
  | _ => 0
theorem rlen_sum (rs : List Rul) : ((rs.map ruleD).map rlen).sum = (((rs.map fun r => r.2.length).sum : Nat) : Int) := by
  induction rs with
  | nil => rfl
  | cons r rs ih =>
    simp only [List.map_cons, List.sum_cons, ih]
    simp [rlen, ruleD]
theorem rules27 {n : Nat} {rs : List Rul} (h : okRules n rs) : Pure L.T (k + 5) 27 [rulesD rs, .int (n : Nat)] (.bl true) := by
  refine pure_of (fd := f27) rfl rfl fun z => ?_
  obtain ⟨Z, hZ⟩ : ∃ Z : Cxt, Z = ⟨callF L.T (k + 4), L.T.con, L.T.W⟩ := ⟨_, rfl⟩
  have c7 : Z.con[7]? = some (.int 4) := by rw [hZ]; rfl
  have c8 : Z.con[8]? = some (.int 14) := by rw [hZ]; rfl
  have z1 : Z.con[1]? = some (R 0) := by rw [hZ]; rfl
  have z2 : Z.con[2]? = some (R 1) := by rw [hZ]; rfl
  have ha := h.a
  have hb := h.b
  have hlen : (rs.map ruleD).length ≤ lim := by rw [List.length_map]; unfold lim; omega
  have e1 : evS Z (.ife (.or (.not (.isi .tuple (.var 0))) (.one (.not (.chn .le .le (.int (1)) (.bi .len (.cons (.var 0) (.nil))) (.glo 7))))) (.cons (.ret (.bl false)) (.nil)) (.nil)) [some (.val (rulesD rs)), some (.val (.int (n : Nat))), none, none, none, none] z = .ok (.nx [some (.val (rulesD rs)), some (.val (.int (n : Nat))), none, none, none, none]) z := by
    simp [rulesD, evSs, evS, evE, evEs, isi_tuple_tup, truD, biD, lenD, cmpD, c7, show decide ((1 : Int) ≤ (rs.length : Nat)) = true from decide_eq_true (by omega), show decide (((rs.length : Nat) : Int) ≤ 4) = true from decide_eq_true (by omega)]
  have it : ∀ σ : Sg, σ[0]? = some (some (.val (rulesD rs))) → evI Z (.seq (.var 0)) σ z = .ok (.l (rs.map ruleD)) z := fun σ h => evI_tup (by unfold evE; rw [h]; rfl)
  have e2 : evS Z (.ife (.not (.bi .all (.cons (.comp (.nm 5) (.seq (.var 0)) (.call 28 (.cons (.var 5) (.cons (.var 1) (.nil))))) (.nil)))) (.cons (.ret (.bl false)) (.nil)) (.nil)) [some (.val (rulesD rs)), some (.val (.int (n : Nat))), none, none, none, none] z = .ok (.nx [some (.val (rulesD rs)), some (.val (.int (n : Nat))), none, none, none, none]) z := by
    have e := all_true (Z := Z) (t := .nm 5) (e := .call 28 (.cons (.var 5) (.cons (.var 1) (.nil)))) (it [some (.val (rulesD rs)), some (.val (.int (n : Nat))), none, none, none, none] rfl) rfl hlen (fun d hd => by
      obtain ⟨r, hr, rfl⟩ := List.mem_map.mp hd
      refine ⟨_, rfl, ?_⟩
      subst hZ
      simp [wipeE, Tg.slots, evE, evEs, hasBor, isBor, callE_pure (rule28 (k := k) (h.r r hr))])
    exact evS_if_f (evE_not e rfl) rfl
  have e3 : evS Z (.set 2 (.glo 1)) [some (.val (rulesD rs)), some (.val (.int (n : Nat))), none, none, none, none] z = .ok (.nx [some (.val (rulesD rs)), some (.val (.int (n : Nat))), some (.val (R 0)), none, none, none]) z := by
    refine evS_set ?_
    unfold evE
    rw [z1]; rfl
  obtain ⟨σ4, z4, e4, s3, s4, hσ4, hz4⟩ : ∃ σ4 z4, evS Z (.for_ (.tp (.cons (.nm 3) (.cons (.nm 4) (.nil)))) (.seq (.var 0)) (.cons (.set 2 (.call 16 (.cons (.var 2) (.cons (.var 3) (.nil))))) (.nil))) [some (.val (rulesD rs)), some (.val (.int (n : Nat))), some (.val (R 0)), none, none, none] z = .ok (.nx σ4) z4 ∧ ∃ s3 s4 : Option D, σ4 = [some (.val (rulesD rs)), some (.val (.int (n : Nat))), some (.val (R 1)), s3.map Slot.val, s4.map Slot.val, none] ∧ z4 = z := by
    obtain ⟨σ', z', e, p⟩ := forL_inv (f := fun d σ z => match asgT (.tp (.cons (.nm 3) (.cons (.nm 4) (.nil)))) d σ with
      | some σ => evSs Z (.cons (.set 2 (.call 16 (.cons (.var 2) (.cons (.var 3) (.nil))))) (.nil)) σ z
      | none => .err) (fun ds σ z' => z' = z ∧ ∃ (rest : List Rul) (q : Rat) (s3 s4 : Option D), ds = rest.map ruleD ∧ rest.length ≤ 4 ∧ (∀ r ∈ rest, okRul n r) ∧ σ = [some (.val (rulesD rs)), some (.val (.int (n : Nat))), some (.val (R q)), s3.map Slot.val, s4.map Slot.val, none] ∧ q + (rest.map (·.1)).sum = 1 ∧ Q60 1 (4 - rest.length) q)
      (fun d ds σ z' ⟨hz, rest, q, s3, s4, hd, hl, hr, hσ, hs, hq⟩ => by
        subst hz hσ
        cases rest with
        | nil => simp at hd
        | cons r rest =>
          simp only [List.map_cons, List.cons.injEq] at hd
          obtain ⟨rfl, rfl⟩ := hd
          have hr0 := hr r List.mem_cons_self
          refine ⟨_, z', ?_, rfl, rest, q + r.1, some (R r.1), some (.tup (r.2.map Sym.d)), rfl, by simp at hl; omega, fun r' h' => hr r' (List.mem_cons_of_mem _ h'), rfl, ?_, ?_⟩
          · have p := callE_pure (ds := [R q, R r.1]) (z := z') (plus16 (k := k + 2) (hq.sm (by omega) (by omega)) (hr0.q.sm (by omega) (by omega)))
            subst hZ
            simp [ruleD, asgT, asgTs, evSs, evS, evE, evEs, hasBor, isBor, p]
          · rw [← hs, List.map_cons, List.sum_cons, Rat.add_assoc]
          · simp at hl
            exact ((hq.up (Nat.le_refl 1) (Nat.le_refl _)).add (hr0.q.up (Nat.le_refl 1) (Nat.zero_le _))).up (Nat.le_refl 1) (by simp; omega)) (rs.map ruleD) _ z ⟨rfl, rs, 0, none, none, rfl, hb, h.r, rfl, by rw [Rat.zero_add]; exact h.s, Q60.zero⟩
    obtain ⟨hz, rest, q, s3, s4, hd, _, _, hσ, hs, _⟩ := p
    have hrest : rest = [] := by cases rest <;> first | rfl | simp at hd
    subst hrest hz
    have hq : q = 1 := by rw [List.map_nil, List.sum_nil, Rat.add_zero] at hs; exact hs
    subst hq
    exact ⟨σ', z', run_for (it _ rfl) e, s3, s4, hσ, rfl⟩
  rw [hσ4, hz4] at e4
  have e5 : evE Z (.bi .sum (.cons (.comp (.tp (.cons (.nm 3) (.cons (.nm 4) (.nil)))) (.seq (.var 0)) (.bi .len (.cons (.var 4) (.nil)))) (.nil))) [some (.val (rulesD rs)), some (.val (.int (n : Nat))), some (.val (R 1)), s3.map Slot.val, s4.map Slot.val, none] z = .ok (.int ((rs.map ruleD).map rlen).sum) z := by
    have fr : freeAt [some (.val (rulesD rs)), some (.val (.int (n : Nat))), some (.val (R 1)), s3.map Slot.val, s4.map Slot.val, none] (Tg.tp (.cons (.nm 3) (.cons (.nm 4) (.nil)))).slots = true := by
      cases s3 <;> cases s4 <;> rfl
    refine sum_map (g := rlen) (it _ rfl) fr hlen fun d hd => ?_
    obtain ⟨r, hr, rfl⟩ := List.mem_map.mp hd
    exact ⟨_, rfl, rfl⟩
  have e6 : evE Z (.and (.cmp .eq (.var 2) (.glo 2)) (.one (.cmp .le (.bi .sum (.cons (.comp (.tp (.cons (.nm 3) (.cons (.nm 4) (.nil)))) (.seq (.var 0)) (.bi .len (.cons (.var 4) (.nil)))) (.nil))) (.glo 8)))) [some (.val (rulesD rs)), some (.val (.int (n : Nat))), some (.val (R 1)), s3.map Slot.val, s4.map Slot.val, none] z = .ok (.bl true) z := by
    have a1 : evE Z (.cmp .eq (.var 2) (.glo 2)) [some (.val (rulesD rs)), some (.val (.int (n : Nat))), some (.val (R 1)), s3.map Slot.val, s4.map Slot.val, none] z = .ok (.bl true) z :=
      evE_cmp (x := R 1) (y := R 1) rfl (by unfold evE; rw [z2]; rfl) (by rw [R_one]; rfl)
    rw [evE_and_t a1 rfl, evE_one]
    have ht := h.t
    refine evE_cmp e5 (y := .int 14) (by unfold evE; rw [c8]; rfl) ?_
    rw [rlen_sum]
    show some (decide _) = _
    rw [decide_eq_true (by omega)]
  subst hZ
  exact run_same e1 (run_same e2 (run_nx e3 (run_nx e4 (run_rt (evS_ret e6)))))
end LW

namespace EV
theorem evE_bin {Z : Cxt} {o : Bop} {a b : C} {σ : Sg} {z z1 z2 : Sto} {x y d : D} (h : evE Z a σ z = .ok x z1) (h2 : evE Z b σ z1 = .ok y z2) (hc : binD o x y = some d) : evE Z (.bin o a b) σ z = .ok d z2 := by
  unfold evE
  rw [h, Res.bind_ok, h2, Res.bind_ok, hc]
  rfl
theorem sum_cast : ∀ l : List Nat, (l.map fun n => ((n : Nat) : Int)).sum = ((l.sum : Nat) : Int)
  | [] => rfl
  | a :: l => by
    rw [List.map_cons, List.sum_cons, List.sum_cons, sum_cast l, Int.natCast_add]
theorem evE_comp2 {Z : Cxt} {t t2 : Tg} {it it2 : I} {e : C} {σ : Sg} {z z' z'' : Sto} {iv : Iv} {vs : List D} (fr : freeAt σ (t.slots ++ t2.slots) = true) (h : evI Z it σ z = .ok iv z') (hg : goI (turn2 Z t it2 t2 e (t.slots ++ t2.slots) σ) iv z' = .ok vs z'') (hl : vs.length ≤ lim) : evE Z (.comp2 t it t2 it2 e) σ z = .ok (.lst vs) z'' := by
  show (if freeAt σ (t.slots ++ t2.slots) = true then (evI Z it σ z).bind fun v z => (goI (turn2 Z t it2 t2 e (t.slots ++ t2.slots) σ) v z).bind fin else .err) = _
  rw [if_pos fr, h, Res.bind_ok, hg, Res.bind_ok]
  exact if_pos hl
theorem turn2_eq {Z : Cxt} {t t2 : Tg} {it2 : I} {e : C} {vs : List Nat} {σ σ1 : Sg} {d : D} {z z1 z2 : Sto} {iv : Iv} {as : List D} (h : asgT t d (wipeE σ vs) = some σ1) (h2 : evI Z it2 σ1 z = .ok iv z1) (h3 : goI (turnI Z t2 (.bl true) e t2.slots σ1) iv z1 = .ok as z2) : turn2 Z t it2 t2 e vs σ d z = .ok as z2 := by
  unfold turn2
  rw [h]
  show (match evI Z it2 σ1 z with
    | .ok v z => goI (turnI Z t2 (.bl true) e t2.slots σ1) v z
    | _ => .err) = _
  rw [h2]
  exact h3
end EV
namespace LW
open EV
variable {k : Nat}
structure okG (g : List (List Rul)) : Prop where
  a : 1 ≤ g.length
  b : g.length ≤ 3
  r : ∀ rs ∈ g, okRules g.length rs
  s : (g.map List.length).sum ≤ 12
  t : (g.flatMap fun rs => rs.map fun r => r.2.length).sum ≤ 34
  u : (g.flatMap fun rs => rs).length ≤ 100
def dlen : D → Int
  | .tup ds => ((ds.length : Nat) : Int)
  | _ => 0
theorem dlen_sum (g : List (List Rul)) : ((g.map rulesD).map dlen).sum = (((g.map List.length).sum : Nat) : Int) := by
  induction g with
  | nil => rfl
  | cons r rs ih =>
    simp only [List.map_cons, List.sum_cons, ih]
    simp [dlen, rulesD]
theorem grammar26 {g : List (List Rul)} (h : okG g) : Pure L.T (k + 6) 26 [gramD g] (.bl true) := by
  refine pure_of (fd := f26) rfl rfl fun z => ?_
  obtain ⟨Z, hZ⟩ : ∃ Z : Cxt, Z = ⟨callF L.T (k + 5), L.T.con, L.T.W⟩ := ⟨_, rfl⟩
  have c4 : Z.con[4]? = some (.int 6) := by rw [hZ]; rfl
  have c5 : Z.con[5]? = some (.int 12) := by rw [hZ]; rfl
  have c6 : Z.con[6]? = some (.int 40) := by rw [hZ]; rfl
  have ha := h.a
  have hb := h.b
  have hlen : (g.map rulesD).length ≤ lim := by rw [List.length_map]; unfold lim; omega
  have ln : ∀ σ : Sg, σ[0]? = some (some (.val (gramD g))) → evE Z (.bi .len (.cons (.var 0) .nil)) σ z = .ok (.int (g.length : Nat)) z := fun σ hσ => by
    refine evE_bi1 (d := gramD g) (by unfold evE; rw [hσ]) ?_
    simp [biD, lenD, gramD]
  have e1 : evS Z (.ife (.or (.not (.isi .tuple (.var 0))) (.one (.not (.chn .le .le (.int (1)) (.bi .len (.cons (.var 0) (.nil))) (.glo 4))))) (.cons (.ret (.bl false)) (.nil)) (.nil)) [some (.val (gramD g)), none, none, none] z = .ok (.nx [some (.val (gramD g)), none, none, none]) z := by
    simp [gramD, evSs, evS, evE, evEs, isi_tuple_tup, truD, biD, lenD, cmpD, c4, show decide ((1 : Int) ≤ (g.length : Nat)) = true from decide_eq_true (by omega), show decide (((g.length : Nat) : Int) ≤ 6) = true from decide_eq_true (by omega)]
  have it : ∀ σ : Sg, σ[0]? = some (some (.val (gramD g))) → evI Z (.seq (.var 0)) σ z = .ok (.l (g.map rulesD)) z := fun σ h => evI_tup (by unfold evE; rw [h]; rfl)
  have e2 : evS Z (.ife (.not (.bi .all (.cons (.comp (.nm 2) (.seq (.var 0)) (.call 27 (.cons (.var 2) (.cons (.bi .len (.cons (.var 0) (.nil))) (.nil))))) (.nil)))) (.cons (.ret (.bl false)) (.nil)) (.nil)) [some (.val (gramD g)), none, none, none] z = .ok (.nx [some (.val (gramD g)), none, none, none]) z := by
    have e := all_true (Z := Z) (t := .nm 2) (e := .call 27 (.cons (.var 2) (.cons (.bi .len (.cons (.var 0) (.nil))) (.nil)))) (it [some (.val (gramD g)), none, none, none] rfl) rfl hlen (fun d hd => by
      obtain ⟨rs, hr, rfl⟩ := List.mem_map.mp hd
      refine ⟨_, rfl, ?_⟩
      have p := callE_pure (ds := [rulesD rs, .int (g.length : Nat)]) (z := z) (rules27 (k := k) (h.r rs hr))
      subst hZ
      simp [wipeE, Tg.slots, evE, evEs, hasBor, isBor, biD, lenD, gramD, p])
    exact evS_if_f (evE_not e rfl) rfl
  have e3 : evS Z (.ife (.cmp .gt (.bi .sum (.cons (.comp (.nm 2) (.seq (.var 0)) (.bi .len (.cons (.var 2) (.nil)))) (.nil))) (.glo 5)) (.cons (.ret (.bl false)) (.nil)) (.nil)) [some (.val (gramD g)), none, none, none] z = .ok (.nx [some (.val (gramD g)), none, none, none]) z := by
    have e := sum_map (Z := Z) (t := .nm 2) (e := .bi .len (.cons (.var 2) (.nil))) (g := dlen) (it [some (.val (gramD g)), none, none, none] rfl) rfl hlen (fun d hd => by
      obtain ⟨rs, hr, rfl⟩ := List.mem_map.mp hd
      exact ⟨_, rfl, rfl⟩)
    have hs := h.s
    refine evS_if_f (evE_cmp e (y := .int 12) (by unfold evE; rw [c5]; rfl) (k := false) ?_) rfl
    rw [dlen_sum]
    show some (decide _) = _
    rw [decide_eq_false (by omega)]
  have fl : goI (turn2 Z (.nm 2) (.seq (.var 2)) (.nm 3) (.bi .len (.cons (.idx (.var 3) (.int (1))) (.nil))) [2, 3] [some (.val (gramD g)), none, none, none]) (.l (g.map rulesD)) z = .ok ((g.map rulesD).flatMap fun d => match d with
      | .tup ds => ds.map fun d => .int (rlen d)
      | _ => []) z := by
    refine goL_flat (g := fun d => match d with
      | .tup ds => ds.map fun d => .int (rlen d)
      | _ => []) fun d hd => ?_
    obtain ⟨rs, hr, rfl⟩ := List.mem_map.mp hd
    refine turn2_eq (σ1 := [some (.val (gramD g)), none, some (.val (rulesD rs)), none]) rfl (evI_tup (ds := rs.map ruleD) rfl) ?_
    refine goL_map (g := fun d => .int (rlen d)) fun d hd => ?_
    obtain ⟨r, hr, rfl⟩ := List.mem_map.mp hd
    exact turn_true (σ' := [some (.val (gramD g)), none, some (.val (rulesD rs)), some (.val (ruleD r))]) rfl rfl
  have fe : ((g.map rulesD).flatMap fun d => match d with
      | .tup ds => ds.map fun d => D.int (rlen d)
      | _ => []) = (g.flatMap fun rs => rs.map fun r => r.2.length).map fun n => D.int ((n : Nat) : Int) := by
    rw [List.flatMap_map, List.map_flatMap]
    congr 1
    funext rs
    simp [rulesD, ruleD, rlen]
  have hfl : ((g.flatMap fun rs => rs.map fun r => r.2.length).map fun n => D.int ((n : Nat) : Int)).length ≤ lim := by
    have e : (g.flatMap fun rs => rs.map fun r => r.2.length) = (g.flatMap fun rs => rs).map fun r => r.2.length := by rw [List.map_flatMap]
    rw [List.length_map, e, List.length_map]
    have := h.u
    unfold lim
    omega
  rw [fe] at fl
  have e4 : evS Z (.set 1 (.comp2 (.nm 2) (.seq (.var 0)) (.nm 3) (.seq (.var 2)) (.bi .len (.cons (.idx (.var 3) (.int (1))) (.nil))))) [some (.val (gramD g)), none, none, none] z = .ok (.nx [some (.val (gramD g)), some (.val (.lst ((g.flatMap fun rs => rs.map fun r => r.2.length).map fun n => D.int ((n : Nat) : Int)))), none, none]) z :=
    evS_set (evE_comp2 rfl (it _ rfl) fl hfl)
  have e5 : evE Z (.cmp .le (.bin .add (.bin .mul (.int (2)) (.bi .len (.cons (.var 0) (.nil)))) (.bi .sum (.cons (.var 1) (.nil)))) (.glo 6)) [some (.val (gramD g)), some (.val (.lst ((g.flatMap fun rs => rs.map fun r => r.2.length).map fun n => D.int ((n : Nat) : Int)))), none, none] z = .ok (.bl true) z := by
    have m1 : (2 : Int).natAbs.log2 + ((g.length : Nat) : Int).natAbs.log2 < 1000000 := by
      have := log_lt (i := (g.length : Nat)) (b := 2) (by omega) (by omega) (by decide)
      have e : (2 : Int).natAbs.log2 = 1 := by decide +kernel
      omega
    have q1 := evE_bin (Z := Z) (a := .int 2) rfl (ln [some (.val (gramD g)), some (.val (.lst ((g.flatMap fun rs => rs.map fun r => r.2.length).map fun n => D.int ((n : Nat) : Int)))), none, none] rfl) (binD_mul m1)
    have q2 : evE Z (.bi .sum (.cons (.var 1) (.nil))) [some (.val (gramD g)), some (.val (.lst ((g.flatMap fun rs => rs.map fun r => r.2.length).map fun n => D.int ((n : Nat) : Int)))), none, none] z = .ok (.int (((g.flatMap fun rs => rs.map fun r => r.2.length).sum : Nat) : Int)) z := by
      refine evE_bi1 rfl ?_
      have e := intsOf_map2 (g := fun n : Nat => ((n : Nat) : Int)) (g.flatMap fun rs => rs.map fun r => r.2.length)
      simp only [biD, e, Option.map_some, sum_cast]
    have ht := h.t
    refine evE_cmp (evE_bin q1 q2 binD_add) (y := .int 40) (by unfold evE; rw [c6]; rfl) ?_
    show some (decide _) = _
    rw [decide_eq_true (by omega)]
  subst hZ
  exact run_same e1 (run_same e2 (run_same e3 (run_nx e4 (run_rt (evS_ret e5)))))
theorem check25 {g : List (List Rul)} (h : okG g) : Pure L.T (k + 7) 25 [gramD g] .non := by
  intro z
  rw [callF_eq (fd := f25) rfl rfl]
  have p := callE_pure (ds := [gramD g]) (z := z) (grammar26 (k := k) h)
  have e : evSs ⟨callF L.T (k + 6), L.T.con, L.T.W⟩ b25 [some (.val (gramD g))] z = .ok (.nx [some (.val (gramD g))]) z := by
    simp [b25, evSs, evS, evE, evEs, hasBor, isBor, p, truD]
  exact congrArg runS e
end LW

namespace EV
theorem evE_and_f {Z : Cxt} {a b : C} {σ : Sg} {z z1 : Sto} {x : D} (h : evE Z a σ z = .ok x z1) (ht : truD x = some false) : evE Z (.and a b) σ z = .ok x z1 := by
  conv => lhs; unfold evE
  rw [h]
  simp only [Res.bind_ok, ht, lift_some]
theorem evE_call2 {Z : Cxt} {f : Nat} {a b : C} {σ : Sg} {z : Sto} {x y d : D} (h1 : evE Z a σ z = .ok x z) (h2 : evE Z b σ z = .ok y z) (n1 : isBor a = false) (n2 : isBor b = false) (p : callE (Z.cl f [x, y]) false [x, y] z = .ok d z) : evE Z (.call f (.cons a (.cons b .nil))) σ z = .ok d z := by
  unfold evE
  simp only [evEs, h1, h2, Res.bind_ok, hasBor, n1, n2, Bool.or_self, p]
theorem eqD_R (a b : Rat) : eqD (R a) (R b) = some (decide (a = b)) := by
  have e : D.eqv (R a) (R b) = decide (a = b) := by
    show ((a.num == b.num) && (((a.den : Int) == (b.den : Int)) && true)) = _
    by_cases h : a = b
    · subst h; simp
    · rw [decide_eq_false h]
      rw [Bool.and_true, Bool.and_eq_false_iff]
      by_cases hn : a.num = b.num
      · refine .inr ?_
        rw [beq_eq_false_iff_ne]
        intro hd
        exact h (Rat.ext hn (by omega))
      · exact .inl (by rw [beq_eq_false_iff_ne]; exact hn)
  show (if ((R a).pln && (R b).pln && decide (Nat.min (R a).dep (R b).dep ≤ 64)) = true then some (D.eqv (R a) (R b)) else none) = _
  rw [if_pos (show ((R a).pln && (R b).pln && decide (Nat.min (R a).dep (R b).dep ≤ 64)) = true from rfl), e]
theorem idxD_lst {z : Sto} {ds : List D} {i : Nat} {d : D} (h : ds[i]? = some d) : idxD z (.lst ds) (.int (i : Nat)) = some d := by
  have hi := (List.getElem?_eq_some_iff.mp h).1
  simp only [idxD, L2.atI, L2.ixN]
  rw [if_pos (by omega), if_pos (by omega)]
  simpa using h
end EV
namespace LW
open EV
variable {k : Nat}
def lstR (a : List Rat) : D := .lst (a.map R)
theorem lstR_get {z : Sto} {a : List Rat} {i : Nat} (h : i < a.length) : idxD z (lstR a) (.int (i : Nat)) = some (R (a.getD i 0)) := by
  refine idxD_lst ?_
  rw [List.getElem?_map, List.getD_eq_getElem?_getD, List.getElem?_eq_getElem h]
  rfl
end LW

namespace EV
theorem evS_app {Z : Cxt} {i : Nat} {c : C} {σ : Sg} {z z' : Sto} {ds : List D} {d : D} (hs : σ[i]? = some (some (.own ds))) (h : evE Z c σ z = .ok d z') (hl : ds.length < lim) : evS Z (.app i c) σ z = .ok (.nx (σ.set i (some (.own (ds ++ [d]))))) z' := by
  unfold evS
  rw [hs]
  simp only [h, bS_ok]
  exact if_pos hl
theorem evE_ite {Z : Cxt} {c a b : C} {σ : Sg} {z z' : Sto} {d : D} {k : Bool} (h : evE Z c σ z = .ok d z') (ht : truD d = some k) : evE Z (.ite c a b) σ z = (match k with
    | true => evE Z a σ z'
    | false => evE Z b σ z') := by
  conv => lhs; unfold evE
  rw [h]
  simp only [Res.bind_ok, ht, lift_some]
  cases k <;> rfl
theorem evE_call1 {Z : Cxt} {f : Nat} {a : C} {σ : Sg} {z : Sto} {x d : D} (h1 : evE Z a σ z = .ok x z) (n1 : isBor a = false) (p : callE (Z.cl f [x]) false [x] z = .ok d z) : evE Z (.call f (.cons a .nil)) σ z = .ok d z := by
  unfold evE
  simp only [evEs, h1, Res.bind_ok, hasBor, n1, Bool.or_self, p]
theorem evS_frz {Z : Cxt} {i : Nat} {σ : Sg} {z : Sto} {ds : List D} (hs : σ[i]? = some (some (.own ds))) : evS Z (.frz i) σ z = .ok (.nx (σ.set i (some (.val (.lst ds))))) z := by
  unfold evS
  rw [hs]
end EV
namespace LW
open EV
variable {k : Nat}
end LW

namespace EV
theorem goL_mapA {α : Type} {f : D → Sto → Res (List D)} {z : Sto} {h g : α → D} : ∀ {l : List α}, (∀ a ∈ l, f (h a) z = .ok [g a] z) → goL f (l.map h) z = .ok (l.map g) z
  | [], _ => rfl
  | a :: l, e => by
    show (f (h a) z).bind (fun a z => (goL f (l.map h) z).bind fun b z => .ok (a ++ b) z) = _
    rw [e a List.mem_cons_self, Res.bind_ok, goL_mapA fun b hb => e b (List.mem_cons_of_mem _ hb)]
    rfl
theorem comp_mapA {α : Type} {Z : Cxt} {t : Tg} {it : I} {e : C} {σ : Sg} {z z' : Sto} {l : List α} {h g : α → D} (hi : evI Z it σ z = .ok (.l (l.map h)) z') (fr : freeAt σ t.slots = true) (hl : l.length ≤ lim)
    (turn : ∀ a ∈ l, ∃ σ', asgT t (h a) (wipeE σ t.slots) = some σ' ∧ evE Z e σ' z' = .ok (g a) z') : evE Z (.comp t it e) σ z = .ok (.lst (l.map g)) z' :=
  evE_comp fr hi (goL_mapA (g := g) fun a ha => by
    obtain ⟨σ', h1, h2⟩ := turn a ha
    exact turn_true h1 h2) (by rw [List.length_map]; exact hl)
theorem evI_zipLL {Z : Cxt} {a b : C} {σ : Sg} {z z1 z2 : Sto} {xs ys : List D} (h1 : evE Z a σ z = .ok (.lst xs) z1) (h2 : evE Z b σ z1 = .ok (.lst ys) z2) : evI Z (.zip a b) σ z = .ok (.l ((xs.zip ys).map fun p => .tup [p.1, p.2])) z2 := by
  unfold evI
  rw [h1, Res.bind_ok, h2]
  rfl
theorem evI_zipTL {Z : Cxt} {a b : C} {σ : Sg} {z z1 z2 : Sto} {xs ys : List D} (h1 : evE Z a σ z = .ok (.tup xs) z1) (h2 : evE Z b σ z1 = .ok (.lst ys) z2) : evI Z (.zip a b) σ z = .ok (.l ((xs.zip ys).map fun p => .tup [p.1, p.2])) z2 := by
  unfold evI
  rw [h1, Res.bind_ok, h2]
  rfl
end EV
namespace LW
open EV
variable {k : Nat}
def sv : Option D → Option Slot := Option.map Slot.val
theorem sv_free {σ : Sg} {l : List Nat} (h : ∀ i ∈ l, ∃ o : Option D, σ[i]? = some (sv o) ∨ σ[i]? = none) : freeAt σ l = true := by
  unfold freeAt
  rw [List.all_eq_true]
  intro i hi
  obtain ⟨o, e | e⟩ := h i hi
  · rw [e]; cases o <;> rfl
  · rw [e]
theorem evE_call3 {Z : Cxt} {f : Nat} {a b c : C} {σ : Sg} {z : Sto} {x y w d : D} (h1 : evE Z a σ z = .ok x z) (h2 : evE Z b σ z = .ok y z) (h3 : evE Z c σ z = .ok w z) (n1 : isBor a = false) (n2 : isBor b = false) (n3 : isBor c = false) (p : callE (Z.cl f [x, y, w]) false [x, y, w] z = .ok d z) : evE Z (.call f (.cons a (.cons b (.cons c .nil)))) σ z = .ok d z := by
  unfold evE
  simp only [evEs, h1, h2, h3, Res.bind_ok, hasBor, n1, n2, n3, Bool.or_self, p]
end LW

namespace EV
theorem evE_callS2 {Z : Cxt} {f : Nat} {a b : C} {σ : Sg} {z z' z2 : Sto} {y d : D} (h1 : evE Z a σ z = .ok .strm z) (h2 : evE Z b σ z = .ok y z') (n1 : isBor a = false) (n2 : isBor b = false) (p : Z.cl f [.strm, y] z' = .ok d z2) : evE Z (.call f (.cons a (.cons b .nil))) σ z = .ok d z2 := by
  unfold evE
  simp only [evEs, h1, h2, Res.bind_ok, hasBor, n1, n2, Bool.or_self]
  rw [callE_strm (by simp [D.noss, D.nos]), p]
end EV
namespace LW
open EV
variable {k : Nat}
theorem next3 {m : Nat} {z : Sto} {many : Int} (st : Stm m z) (hm : m < 2 ^ 40) (h1 : 0 < many) (h2 : many < 2 ^ 30) :
    ∃ v z', 0 ≤ v ∧ v < many ∧ Stm (m + 1) z' ∧ callF L.T (k + 1) 3 [.strm, .int many] z = .ok (.int v) z' := next_ok (f := 3) rfl st hm h1 h2
def azm (i : Nat) : Nat := if i = 0 then 97 else if i = 1 then 122 else 109
theorem azm_ok {z : Sto} {v : Int} (h0 : 0 ≤ v) (h1 : v < 3) : idxD z (.str [97, 122, 109]) (.int v) = some (.str [azm v.toNat]) ∧ 97 ≤ azm v.toNat ∧ azm v.toNat ≤ 122 := by
  have : v = 0 ∨ v = 1 ∨ v = 2 := by omega
  rcases this with rfl | rfl | rfl <;> exact ⟨rfl, by decide, by decide⟩
theorem symbol19 {m : Nat} {z : Sto} {many : Nat} {lt : Int} (hlt : 1 ≤ lt ∧ lt ≤ 3) (st : Stm m z) (hm : m + 1 < 2 ^ 40) (h1 : 0 < many) (h2 : many < 2 ^ 30) :
    ∃ s z', okSym many s ∧ Stm (m + 2) z' ∧ callF L.T (k + 2) 19 [.strm, .int (many : Nat), .int lt] z = .ok (Sym.d s) z' := by
  obtain ⟨Z, hZ⟩ : ∃ Z : Cxt, Z = ⟨callF L.T (k + 1), L.T.con, L.T.W⟩ := ⟨_, rfl⟩
  have hcl : Z.cl = callF L.T (k + 1) := by rw [hZ]
  obtain ⟨v, z1, v0, v1, st1, c1⟩ := next3 (k := k) (many := 5) st (by omega) (by decide) (by decide)
  rw [← hcl] at c1
  have e1 := evE_callS2 (Z := Z) (f := 3) (a := .var 0) (b := .int 5) (σ := [some (.val .strm), some (.val (.int (many : Nat))), some (.val (.int lt))]) (z := z) rfl rfl rfl rfl c1
  by_cases hv : v < 2
  · obtain ⟨w, z2, w0, w1, st2, c2⟩ := next3 (k := k) (many := (many : Nat)) st1 (by omega) (by omega) (by omega)
    rw [← hcl] at c2
    refine ⟨.v w.toNat, z2, by show w.toNat < many; omega, st2, ?_⟩
    rw [callF_eq (fd := f19) rfl rfl, ← hZ]
    have q : evSs Z b19 [some (.val .strm), some (.val (.int (many : Nat))), some (.val (.int lt))] z = .ok (.rt (.int w)) z2 := by
      have c := evE_cmp (o := .lt) e1 (b := .int 2) rfl (k := true) (by show some (decide _) = _; rw [decide_eq_true hv])
      have f := evE_callS2 (Z := Z) (f := 3) (a := .var 0) (b := .var 1) (σ := [some (.val .strm), some (.val (.int (many : Nat))), some (.val (.int lt))]) (z := z1) rfl rfl rfl rfl c2
      unfold b19
      exact run_rt ((evS_if c rfl).trans (run_rt (evS_ret f)))
    have e : Sym.d (.v w.toNat) = .int w := by
      show D.int ((w.toNat : Nat) : Int) = _
      rw [Int.toNat_of_nonneg w0]
    rw [e]
    exact congrArg runS q
  · obtain ⟨w, z2, w0, w1, st2, c2⟩ := next3 (k := k) (many := lt) st1 (by omega) (by omega) (by omega)
    rw [← hcl] at c2
    obtain ⟨q1, q2, q3⟩ := azm_ok (z := z2) w0 (by omega)
    refine ⟨.l (azm w.toNat), z2, ⟨q2, q3⟩, st2, ?_⟩
    rw [callF_eq (fd := f19) rfl rfl, ← hZ]
    have q : evSs Z b19 [some (.val .strm), some (.val (.int (many : Nat))), some (.val (.int lt))] z = .ok (.rt (.str [azm w.toNat])) z2 := by
      have c := evE_cmp (o := .lt) e1 (b := .int 2) rfl (k := false) (by show some (decide _) = _; rw [decide_eq_false hv])
      have f := evE_callS2 (Z := Z) (f := 3) (a := .var 0) (b := .var 2) (σ := [some (.val .strm), some (.val (.int (many : Nat))), some (.val (.int lt))]) (z := z1) rfl rfl rfl rfl c2
      have g : evE Z (.idx (.str [97, 122, 109]) (.call 3 (.cons (.var 0) (.cons (.var 2) (.nil))))) [some (.val .strm), some (.val (.int (many : Nat))), some (.val (.int lt))] z1 = .ok (.str [azm w.toNat]) z2 := by
        unfold evE
        rw [show evE Z (.str [97, 122, 109]) [some (.val .strm), some (.val (.int (many : Nat))), some (.val (.int lt))] z1 = .ok (.str [97, 122, 109]) z1 from rfl, Res.bind_ok, f, Res.bind_ok, q1]
        rfl
      unfold b19
      exact run_nx (evS_if_f c rfl) (run_rt (evS_ret g))
    exact congrArg runS q
end LW

namespace LW
open EV
variable {k : Nat}
def ch (n : Nat) : Rat := mkRat (n : Nat) 60
theorem low12 : LowOk L.T (k + 2) 12 := llow_ok (f := 12) (fg := 20) rfl rfl
theorem low_ch {n : Nat} : Pure L.T (k + 2) 12 [.int (n : Nat), .int 60] (R (ch n)) := low12 (n : Nat) 60 (by decide) (by decide)
theorem chances8 {m : Nat} {z : Sto} {many : Nat} (st : Stm m z) (hm : m + 10 ≤ 2 ^ 30) (h1 : 1 ≤ many) (h2 : many ≤ 3) :
    ∃ (ns : List Nat) (z' : Sto), ns.length = many ∧ (∀ n ∈ ns, 1 ≤ n) ∧ ns.sum = 60 ∧ Stm (m + 3) z' ∧ callF L.T (k + 3) 8 [.strm, .int (many : Nat)] z = .ok (.lst (ns.map fun n => R (ch n))) z' := by
  obtain ⟨Z, hZ⟩ : ∃ Z : Cxt, Z = ⟨callF L.T (k + 2), L.T.con, L.T.W⟩ := ⟨_, rfl⟩
  have hcl : Z.cl = callF L.T (k + 2) := by rw [hZ]
  have it : evI Z (.rng1 (.bin .sub (.var 1) (.int (1)))) [some (.val .strm), some (.val (.int (many : Nat))), some (.own []), some (.val (.int 60)), none, none] z = .ok (.r 0 (many - 1)) z := by
    refine evI_rngN (n := many - 1) (evE_bin (o := .sub) (x := .int (many : Nat)) (y := .int 1) rfl rfl ?_) (by unfold lim; omega)
    rw [binD_sub]
    congr 2
    omega
  obtain ⟨σ', z', e1, p⟩ := forR_inv (f := fun d σ z => match asgT (.nm 4) d σ with
      | some σ => evSs Z (.cons (.set 5 (.bin .add (.int (1)) (.call 3 (.cons (.var 0) (.cons (.bin .add (.bin .add (.bin .sub (.var 3) (.var 1)) (.int (1))) (.var 4)) (.nil)))))) (.cons (.app 2 (.call 12 (.cons (.var 5) (.cons (.int (60)) (.nil))))) (.cons (.set 3 (.bin .sub (.var 3) (.var 5))) (.nil)))) σ z
      | none => .err) (lo := 0) (n := many - 1) (fun i σ z' => Stm (m + i) z' ∧ ∃ (ns : List Nat) (left : Nat) (s4 s5 : Option Slot), ns.length = i ∧ (∀ n ∈ ns, 1 ≤ n) ∧ ns.sum + left = 60 ∧ many ≤ left + i ∧ σ = [some (.val .strm), some (.val (.int (many : Nat))), some (.own (ns.map fun n => R (ch n))), some (.val (.int (left : Nat))), s4, s5])
    (fun i σ z' hi ⟨st', ns, left, s4, s5, hl, hn, hs, hle, hσ⟩ => by
      subst hσ
      rw [show (0 : Int) + (i : Nat) = (i : Nat) by omega]
      have hsum : left ≤ 60 := by omega
      obtain ⟨v, z2, v0, v1, st2, c2⟩ := next3 (k := k + 1) (many := (left : Int) - (many : Nat) + 1 + (i : Nat)) st' (by omega) (by omega) (by omega)
      rw [← hcl] at c2
      have p := callE_pure (ds := [.int ((1 + v.toNat : Nat) : Int), .int 60]) (z := z2) (low_ch (k := k) (n := 1 + v.toNat))
      rw [← hcl] at p
      have ev : (1 : Int) + v = ((1 + v.toNat : Nat) : Int) := by omega
      have f := evE_callS2 (Z := Z) (f := 3) (a := .var 0) (b := .bin .add (.bin .add (.bin .sub (.var 3) (.var 1)) (.int (1))) (.var 4)) (y := .int ((left : Int) - (many : Nat) + 1 + (i : Nat))) (σ := [some (.val .strm), some (.val (.int (many : Nat))), some (.own (ns.map fun n => R (ch n))), some (.val (.int (left : Nat))), some (.val (.int (i : Nat))), s5]) (z := z') (z' := z') rfl rfl rfl rfl c2
      refine ⟨_, z2, ?_, st2, ns ++ [1 + v.toNat], left - (1 + v.toNat), some (.val (.int (i : Nat))), some (.val (.int ((1 + v.toNat : Nat) : Int))), by simp [hl], fun n h' => ?_, by simp; omega, by omega, rfl⟩
      · show evSs Z _ [some (.val .strm), some (.val (.int (many : Nat))), some (.own (ns.map fun n => R (ch n))), some (.val (.int (left : Nat))), some (.val (.int (i : Nat))), s5] z' = _
        refine run_nx (evS_set (d := .int ((1 + v.toNat : Nat) : Int)) (evE_bin (o := .add) (x := .int 1) rfl f (by rw [binD_add, ev]))) (run_nx (evS_app (ds := ns.map fun n => R (ch n)) rfl (evE_call2 rfl rfl rfl rfl p) (by rw [List.length_map]; unfold lim; omega)) (run_nx (evS_set (d := .int ((left - (1 + v.toNat) : Nat) : Int)) (evE_bin (o := .sub) (x := .int (left : Nat)) (y := .int ((1 + v.toNat : Nat) : Int)) rfl rfl ?_)) ?_))
        · rw [binD_sub]
          congr 2
          omega
        · rw [List.map_append]; rfl
      · rcases List.mem_append.mp h' with h' | h'
        · exact hn n h'
        · rw [List.mem_singleton.mp h']; omega) _ z ⟨st, [], 60, none, none, rfl, (fun n h => nomatch h), rfl, by omega, rfl⟩
  obtain ⟨st2, ns, left, s4, s5, hl, hn, hs, hle, hσ⟩ := p
  subst hσ
  have p := callE_pure (ds := [.int (left : Nat), .int 60]) (z := z') (low_ch (k := k) (n := left))
  rw [← hcl] at p
  refine ⟨ns ++ [left], z', by simp; omega, fun n h' => ?_, by simp; omega, st2.le (by omega), ?_⟩
  · rcases List.mem_append.mp h' with h' | h'
    · exact hn n h'
    · rw [List.mem_singleton.mp h']; omega
  rw [callF_eq (fd := f8) rfl rfl, ← hZ]
  have q : evSs Z b8 [some (.val .strm), some (.val (.int (many : Nat))), none, none, none, none] z = .ok (.rt (.lst ((ns ++ [left]).map fun n => R (ch n)))) z' := by
    unfold b8
    refine run_nx (evS_own (ds := []) rfl) (run_nx (evS_set (d := .int 60) rfl) (run_nx (run_for it e1) (run_rt (evS_ret ?_))))
    refine evE_bin (o := .add) (x := .lst (ns.map fun n => R (ch n))) (y := .lst [R (ch left)]) rfl ?_ ?_
    · have q := evE_call2 (Z := Z) (f := 12) (a := .var 3) (b := .int 60) (σ := [some (.val .strm), some (.val (.int (many : Nat))), some (.own (ns.map fun n => R (ch n))), some (.val (.int (left : Nat))), s4, s5]) rfl rfl rfl rfl p
      unfold evE
      simp only [evEs, q, Res.bind_ok]
    · show (if _ then some (D.lst ((ns.map fun n => R (ch n)) ++ [R (ch left)])) else none) = _
      rw [if_pos (by simp; unfold lim; omega), List.map_append]
      rfl
  exact congrArg runS q
end LW

namespace LW
open EV
variable {k : Nat}
theorem ch_num {n : Nat} (h : 1 ≤ n) : 0 < (ch n).num := by
  have e := (Rat.normalize_eq_mkRat (num := (n : Int)) (den := 60) (by decide)).symm.trans (Rat.normalize_eq (by decide))
  unfold ch
  rw [show (mkRat (n : Int) 60).num = (n : Int) / (((n : Int).natAbs.gcd 60 : Nat) : Int) from congrArg Rat.num e, Int.natAbs_natCast]
  have hd : n.gcd 60 ∣ n := Nat.gcd_dvd_left _ _
  have : 0 < n / n.gcd 60 := Nat.div_pos (Nat.le_of_dvd (by omega) hd) (Nat.gcd_pos_of_pos_right _ (by decide))
  rw [← Int.natCast_ediv]
  omega
theorem ch_den {n : Nat} : (ch n).den ≤ 60 := by
  have e := (Rat.normalize_eq_mkRat (num := (n : Int)) (den := 60) (by decide)).symm.trans (Rat.normalize_eq (by decide))
  unfold ch
  rw [show (mkRat (n : Int) 60).den = 60 / ((n : Int).natAbs.gcd 60) from congrArg Rat.den e]
  exact Nat.div_le_self _ _
theorem ch_Q {n : Nat} (h : n ≤ 60) : Q60 1 0 (ch n) := ⟨(n : Nat), rfl, by simp; omega⟩
theorem ch_sum : ∀ ns : List Nat, (ns.map ch).sum = ch ns.sum
  | [] => by rfl
  | n :: ns => by
    rw [List.map_cons, List.sum_cons, List.sum_cons, ch_sum ns]
    unfold ch
    rw [Rat.mkRat_add_mkRat _ _ (by decide) (by decide), ← Int.add_mul]
    rw [show ((60 : Nat) : Int) = ((60 : Nat) : Int) from rfl, Rat.mkRat_mul_right (by decide), Int.natCast_add]
theorem ch_60 : ch 60 = 1 := by rfl
end LW

namespace EV
theorem evE_callS3 {Z : Cxt} {f : Nat} {a b c : C} {σ : Sg} {z z2 : Sto} {y w d : D} (h1 : evE Z a σ z = .ok .strm z) (h2 : evE Z b σ z = .ok y z) (h3 : evE Z c σ z = .ok w z) (n1 : isBor a = false) (n2 : isBor b = false) (n3 : isBor c = false) (p : Z.cl f [.strm, y, w] z = .ok d z2) : evE Z (.call f (.cons a (.cons b (.cons c .nil)))) σ z = .ok d z2 := by
  unfold evE
  simp only [evEs, h1, h2, h3, Res.bind_ok, hasBor, n1, n2, n3, Bool.or_self]
  rw [callE_strm (by simp [D.noss, D.nos]), p]
/-- a comprehension over a range whose turns draw from the stream -/
theorem goR_st {α : Type} {f : D → Sto → Res (List D)} {P : α → Prop} {g : α → D} {c B : Nat} : ∀ (n : Nat) (lo : Int) (m : Nat) (z : Sto), Stm m z → m + c * n ≤ B → (∀ (i : Int) (m : Nat) (z : Sto), Stm m z → m + c ≤ B → ∃ a z', P a ∧ Stm (m + c) z' ∧ f (.int i) z = .ok [g a] z') →
    ∃ (as : List α) (z' : Sto), as.length = n ∧ (∀ a ∈ as, P a) ∧ Stm (m + c * n) z' ∧ goR f lo n z = .ok (as.map g) z' := fun n => by
  induction n with
  | zero => intro lo m z st hb h; exact ⟨[], z, rfl, (fun a h => nomatch h), st, rfl⟩
  | succ n ih =>
    intro lo m z st hb h
    rw [Nat.mul_succ] at hb ⊢
    obtain ⟨a, z1, p, st1, e1⟩ := h lo m z st (by omega)
    obtain ⟨as, z2, l, q, st2, e2⟩ := ih (lo + 1) (m + c) z1 st1 (by omega) h
    refine ⟨a :: as, z2, by rw [List.length_cons, l], fun x hx => ?_, by rw [show m + (c * n + c) = m + c + c * n by omega]; exact st2, ?_⟩
    · rcases List.mem_cons.mp hx with rfl | hx
      · exact p
      · exact q x hx
    · show (f (.int lo) z).bind _ = _
      rw [e1, Res.bind_ok, e2]
      rfl
end EV
namespace LW
open EV
variable {k : Nat}
def symsE : C := .bi .tuple (.cons (.comp (.nm 6) (.rng1 (.call 3 (.cons (.var 0) (.cons (.int (4)) (.nil))))) (.call 19 (.cons (.var 0) (.cons (.var 1) (.cons (.int (3)) (.nil)))))) (.nil))
theorem syms {Z : Cxt} {m many : Nat} {z : Sto} {s2 s3 s4 s5 : Option Slot} (hZ : Z = ⟨callF L.T (k + 2), L.T.con, L.T.W⟩) (st : Stm m z) (hm : m + 7 ≤ 2 ^ 30) (h1 : 0 < many) (h2 : many < 2 ^ 30) :
    ∃ (ss : List Sym) (z' : Sto), ss.length ≤ 3 ∧ (∀ s ∈ ss, okSym many s) ∧ Stm (m + 7) z' ∧ evE Z symsE [some (.val .strm), some (.val (.int (many : Nat))), s2, s3, s4, s5, none] z = .ok (.tup (ss.map Sym.d)) z' := by
  have hcl : Z.cl = callF L.T (k + 2) := by rw [hZ]
  obtain ⟨v, z1, v0, v1, st1, c1⟩ := next3 (k := k + 1) (many := 4) st (by omega) (by decide) (by decide)
  rw [← hcl] at c1
  obtain ⟨n, hn⟩ : ∃ n : Nat, n = v.toNat := ⟨_, rfl⟩
  have hv : v = (n : Nat) := by omega
  have it : evI Z (.rng1 (.call 3 (.cons (.var 0) (.cons (.int (4)) (.nil))))) [some (.val .strm), some (.val (.int (many : Nat))), s2, s3, s4, s5, none] z = .ok (.r 0 n) z1 :=
    evI_rngN (n := n) (by rw [← hv]; exact evE_callS2 (Z := Z) (f := 3) (a := .var 0) (b := .int 4) rfl rfl rfl rfl c1) (by unfold lim; omega)
  obtain ⟨ss, z3, hl, hss, st3, e3⟩ := goR_st (α := Sym) (P := okSym many) (g := Sym.d) (c := 2) (B := 2 ^ 31) (f := turnI Z (.nm 6) (.bl true) (.call 19 (.cons (.var 0) (.cons (.var 1) (.cons (.int (3)) (.nil))))) [6] [some (.val .strm), some (.val (.int (many : Nat))), s2, s3, s4, s5, none]) n 0 (m + 1) z1 st1 (by omega) (fun i m z st hb => by
      obtain ⟨s, z', o, st', e⟩ := symbol19 (k := k) (lt := 3) (by omega) st (by omega) h1 h2
      rw [← hcl] at e
      exact ⟨s, z', o, st', turn_true rfl (evE_callS3 rfl rfl rfl rfl rfl rfl e)⟩)
  refine ⟨ss, z3, by omega, hss, st3.le (by omega), ?_⟩
  unfold symsE
  exact evE_bi1 (evE_comp rfl it e3 (by rw [List.length_map]; unfold lim; omega)) rfl
def ruleLB : Ss := .cons (.app 4 (.tup (.cons (.var 5) (.cons symsE (.nil))))) (.nil)
theorem rules2 {Z : Cxt} {z : Sto} {m many : Nat} {ns : List Nat} {s2 s3 s5 : Option Slot} (hZ : Z = ⟨callF L.T (k + 2), L.T.con, L.T.W⟩) (st : Stm m z) (hm : m + 7 * ns.length + 20 ≤ 2 ^ 30) (h1 : 0 < many) (h2 : many < 2 ^ 30) (hl : ns.length ≤ 3) :
    ∃ (rs : List Rul) (z' : Sto) (s5' : Option Slot), rs.map (·.1) = ns.map ch ∧ (∀ r ∈ rs, (∀ s ∈ r.2, okSym many s) ∧ r.2.length ≤ 3) ∧ Stm (m + 7 * ns.length) z' ∧
      forL (fun d σ z => match asgT (.nm 5) d σ with
        | some σ => evSs Z ruleLB σ z
        | none => .err) (ns.map fun n => R (ch n)) [some (.val .strm), some (.val (.int (many : Nat))), s2, s3, some (.own []), s5, none] z = .ok (.nx [some (.val .strm), some (.val (.int (many : Nat))), s2, s3, some (.own (rs.map ruleD)), s5', none]) z' := by
  obtain ⟨σ', z', e1, p⟩ := forL_inv (f := fun d σ z => match asgT (.nm 5) d σ with
        | some σ => evSs Z ruleLB σ z
        | none => .err) (fun ds σ z' => ∃ (rest done : List Nat) (rs : List Rul) (s5 : Option Slot), ds = (rest.map fun n => R (ch n)) ∧ done ++ rest = ns ∧ rs.map (·.1) = done.map ch ∧ (∀ r ∈ rs, (∀ s ∈ r.2, okSym many s) ∧ r.2.length ≤ 3) ∧ Stm (m + 7 * done.length) z' ∧ σ = [some (.val .strm), some (.val (.int (many : Nat))), s2, s3, some (.own (rs.map ruleD)), s5, none])
    (fun d ds σ z' ⟨rest, done, rs, s5, hd, hdr, hf, hok, st', hσ⟩ => by
      subst hσ
      cases rest with
      | nil => simp at hd
      | cons n rest =>
        simp only [List.map_cons, List.cons.injEq] at hd
        obtain ⟨rfl, rfl⟩ := hd
        have hlen : done.length + (rest.length + 1) = ns.length := by rw [← hdr]; simp
        have hrl : rs.length = done.length := by have := congrArg List.length hf; simpa using this
        obtain ⟨ss, z2, hsh, hss, st2, c2⟩ := syms (k := k) (s2 := s2) (s3 := s3) (s4 := some (.own (rs.map ruleD))) (s5 := some (.val (R (ch n)))) hZ st' (by omega) h1 h2
        refine ⟨_, z2, ?_, rest, done ++ [n], rs ++ [(ch n, ss)], some (.val (R (ch n))), rfl, by rw [List.append_assoc]; exact hdr, by rw [List.map_append, List.map_append, hf]; rfl, fun r hr => ?_, by rw [List.length_append, List.length_singleton, Nat.mul_add]; exact st2, rfl⟩
        · show evSs Z ruleLB [some (.val .strm), some (.val (.int (many : Nat))), s2, s3, some (.own (rs.map ruleD)), some (.val (R (ch n))), none] z' = _
          have g : evE Z (.tup (.cons (.var 5) (.cons symsE (.nil)))) [some (.val .strm), some (.val (.int (many : Nat))), s2, s3, some (.own (rs.map ruleD)), some (.val (R (ch n))), none] z' = .ok (ruleD (ch n, ss)) z2 := by
            unfold evE
            unfold evEs
            rw [show evE Z (.var 5) [some (.val .strm), some (.val (.int (many : Nat))), s2, s3, some (.own (rs.map ruleD)), some (.val (R (ch n))), none] z' = .ok (R (ch n)) z' from rfl, Res.bind_ok]
            unfold evEs
            rw [c2]
            rfl
          refine run_nx (evS_app (ds := rs.map ruleD) rfl g (by rw [List.length_map]; unfold lim; omega)) ?_
          rw [List.map_append]; rfl
        · rcases List.mem_append.mp hr with hr | hr
          · exact hok r hr
          · rw [List.mem_singleton.mp hr]; exact ⟨hss, hsh⟩) (ns.map fun n => R (ch n)) _ z ⟨ns, [], [], s5, rfl, rfl, rfl, (fun r h => nomatch h), st, rfl⟩
  obtain ⟨rest, done, rs, s5', hd, hdr, hf, hok, st2, hσ⟩ := p
  have hrest : rest = [] := by cases rest <;> first | rfl | simp at hd
  subst hrest
  rw [List.append_nil] at hdr
  subst hdr hσ
  exact ⟨rs, z', s5', hf, hok, st2, e1⟩
/-- what the law's generator tells of one variable's rules -/
structure genR (many : Nat) (rs : List Rul) : Prop where
  ns : ∃ ns : List Nat, rs.map (·.1) = ns.map ch ∧ 1 ≤ ns.length ∧ ns.length ≤ 3 ∧ (∀ n ∈ ns, 1 ≤ n) ∧ ns.sum = 60
  ok : ∀ r ∈ rs, (∀ s ∈ r.2, okSym many s) ∧ r.2.length ≤ 3
def varB : Ss := .cons (.own 4 (.lst (.nil))) (.cons (.for_ (.nm 5) (.seq (.call 8 (.cons (.var 0) (.cons (.bin .add (.int (1)) (.call 3 (.cons (.var 0) (.cons (.int (3)) (.nil))))) (.nil))))) ruleLB) (.cons (.app 2 (.bi .tuple (.cons (.bor 4) (.nil)))) (.nil)))
theorem grammar32 {m : Nat} {z : Sto} (st : Stm m z) (hm : m + 200 ≤ 2 ^ 30) :
    ∃ (g : List (List Rul)) (z' : Sto), 1 ≤ g.length ∧ g.length ≤ 3 ∧ (∀ rs ∈ g, genR g.length rs) ∧ Stm (m + 100) z' ∧ callF L.T (k + 4) 32 [.strm] z = .ok (gramD g) z' := by
  obtain ⟨Z, hZ⟩ : ∃ Z : Cxt, Z = ⟨callF L.T (k + 3), L.T.con, L.T.W⟩ := ⟨_, rfl⟩
  have hcl : Z.cl = callF L.T (k + 3) := by rw [hZ]
  obtain ⟨v, z1, v0, v1, st1, c1⟩ := next3 (k := k + 2) (many := 3) st (by omega) (by decide) (by decide)
  rw [← hcl] at c1
  obtain ⟨many, hmany⟩ : ∃ many : Nat, many = 1 + v.toNat := ⟨_, rfl⟩
  have ev : (1 : Int) + v = (many : Nat) := by omega
  have f1 := evE_callS2 (Z := Z) (f := 3) (a := .var 0) (b := .int 3) (σ := [some (.val .strm), none, none, none, none, none, none]) (z := z) rfl rfl rfl rfl c1
  obtain ⟨σ', z', e1, p⟩ := forR_inv (f := fun d σ z => match asgT (.nm 3) d σ with
      | some σ => evSs Z varB σ z
      | none => .err) (lo := 0) (n := many) (fun i σ z' => Stm (m + 1 + 30 * i) z' ∧ ∃ (g : List (List Rul)) (s3 s4 s5 : Option Slot), g.length = i ∧ (∀ rs ∈ g, genR many rs) ∧ σ = [some (.val .strm), some (.val (.int (many : Nat))), some (.own (g.map rulesD)), s3, s4, s5, none])
    (fun i σ z' hi ⟨st', g, s3, s4, s5, hg, hok, hσ⟩ => by
      subst hσ
      obtain ⟨w, z2, w0, w1, st2, c2⟩ := next3 (k := k + 2) (many := 3) st' (by omega) (by decide) (by decide)
      rw [← hcl] at c2
      obtain ⟨ns, z3, nl, nn, nsum, st3, c3⟩ := chances8 (k := k) (many := 1 + w.toNat) st2 (by omega) (by omega) (by omega)
      rw [← hcl] at c3
      obtain ⟨rs, z4, s5', hf, hr, st4, e4⟩ := rules2 (k := k + 1) (Z := Z) (many := many) (ns := ns) (s2 := some (.own (g.map rulesD))) (s3 := some (.val (.int (0 + (i : Nat))))) (s5 := s5) hZ st3 (by omega) (by omega) (by omega) (by omega)
      refine ⟨_, z4, ?_, st4.le (by omega), g ++ [rs], some (.val (.int (0 + (i : Nat)))), some (.own (rs.map ruleD)), s5', by simp [hg], fun rs' h' => ?_, rfl⟩
      · show evSs Z varB [some (.val .strm), some (.val (.int (many : Nat))), some (.own (g.map rulesD)), some (.val (.int (0 + (i : Nat)))), s4, s5, none] z' = _
        have a1 := evE_callS2 (Z := Z) (f := 3) (a := .var 0) (b := .int 3) (σ := [some (.val .strm), some (.val (.int (many : Nat))), some (.own (g.map rulesD)), some (.val (.int (0 + (i : Nat)))), some (.own []), s5, none]) (z := z') rfl rfl rfl rfl c2
        have a2 := evE_callS2 (Z := Z) (f := 8) (a := .var 0) (b := .bin .add (.int (1)) (.call 3 (.cons (.var 0) (.cons (.int (3)) (.nil))))) (y := .int ((1 + w.toNat : Nat) : Int)) (σ := [some (.val .strm), some (.val (.int (many : Nat))), some (.own (g.map rulesD)), some (.val (.int (0 + (i : Nat)))), some (.own []), s5, none]) (z := z') (z' := z2) rfl (evE_bin (o := .add) (x := .int 1) rfl a1 (by rw [binD_add]; congr 2; omega)) rfl rfl c3
        refine run_nx (evS_own (ds := []) rfl) (run_nx (run_for (evI_lst a2) e4) (run_nx (evS_app (ds := g.map rulesD) (d := rulesD rs) rfl (evE_bi1 (d := .lst (rs.map ruleD)) rfl rfl) (by rw [List.length_map]; unfold lim; omega)) ?_))
        rw [List.map_append]; rfl
      · rcases List.mem_append.mp h' with h' | h'
        · exact hok rs' h'
        · rw [List.mem_singleton.mp h']
          exact ⟨⟨ns, hf, by omega, by omega, nn, nsum⟩, hr⟩) [some (.val .strm), some (.val (.int (many : Nat))), some (.own []), none, none, none, none] z1 ⟨st1, [], none, none, none, rfl, (fun r h => nomatch h), rfl⟩
  obtain ⟨st2, g, s3, s4, s5, hg, hok, hσ⟩ := p
  subst hσ
  refine ⟨g, z', by omega, by omega, by rw [hg]; exact hok, st2.le (by omega), ?_⟩
  rw [callF_eq (fd := f32) rfl rfl, ← hZ]
  have q : evSs Z b32 [some (.val .strm), none, none, none, none, none, none] z = .ok (.rt (gramD g)) z' := by
    unfold b32
    refine run_nx (evS_set (d := .int (many : Nat)) (evE_bin (o := .add) (x := .int 1) rfl f1 (by rw [binD_add, ev]))) (run_nx (evS_own (ds := []) rfl) (run_nx (run_for (iv := .r 0 many) (evI_rngN rfl (by unfold lim; omega)) e1) (run_rt (evS_ret (evE_bi1 (d := .lst (g.map rulesD)) rfl rfl)))))
  exact congrArg runS q
theorem sum_le {c : Nat} : ∀ l : List Nat, (∀ x ∈ l, x ≤ c) → l.sum ≤ c * l.length
  | [], _ => by simp
  | a :: l, h => by
    have h1 := h a List.mem_cons_self
    have h2 := sum_le l fun x hx => h x (List.mem_cons_of_mem _ hx)
    rw [List.sum_cons, List.length_cons, Nat.mul_succ]
    omega
theorem mem_le_sum : ∀ {l : List Nat} {x : Nat}, x ∈ l → x ≤ l.sum
  | a :: l, x, h => by
    rw [List.sum_cons]
    rcases List.mem_cons.mp h with rfl | h
    · omega
    · have := mem_le_sum h; omega
theorem genR.len {many : Nat} {rs : List Rul} (h : genR many rs) : 1 ≤ rs.length ∧ rs.length ≤ 3 := by
  obtain ⟨ns, hf, h1, h2, _, _⟩ := h.ns
  have := congrArg List.length hf
  simp only [List.length_map] at this
  omega
theorem genR.rules {many : Nat} {rs : List Rul} (h : genR many rs) : okRules many rs := by
  have hl := h.len
  obtain ⟨ns, hf, h1, h2, h3, h4⟩ := h.ns
  refine ⟨hl.1, by omega, fun r hr => ?_, ?_, ?_⟩
  · have hm : r.1 ∈ ns.map ch := by rw [← hf]; exact List.mem_map_of_mem hr
    obtain ⟨n, hn, e⟩ := List.mem_map.mp hm
    have hn60 : n ≤ 60 := by rw [← h4]; exact mem_le_sum hn
    have ok := h.ok r hr
    refine ⟨?_, ?_, ?_, by have := ok.2; omega, ok.1⟩
    · rw [← e]; exact ch_Q hn60
    · rw [← e]; exact ch_num (h3 n hn)
    · rw [← e]; exact ch_den
  · rw [hf, ch_sum, h4, ch_60]
  · have := sum_le (c := 3) (rs.map fun r => r.2.length) fun x hx => by
      obtain ⟨r, hr, rfl⟩ := List.mem_map.mp hx
      exact (h.ok r hr).2
    rw [List.length_map] at this
    omega
theorem flat_len {α : Type} {c : Nat} : ∀ g : List (List α), (∀ l ∈ g, l.length ≤ c) → (g.flatMap fun l => l).length ≤ c * g.length
  | [], _ => by simp
  | a :: g, h => by
    have h1 := h a List.mem_cons_self
    have h2 := flat_len g fun l hl => h l (List.mem_cons_of_mem _ hl)
    rw [List.flatMap_cons, List.length_append, List.length_cons, Nat.mul_succ]
    omega
theorem gen_ok {g : List (List Rul)} (h1 : 1 ≤ g.length) (h2 : g.length ≤ 3) (h : ∀ rs ∈ g, genR g.length rs) : okG g := by
  have fl := flat_len (c := 3) g fun rs hrs => (h rs hrs).len.2
  refine ⟨h1, h2, fun rs hrs => (h rs hrs).rules, ?_, ?_, by omega⟩
  · have := sum_le (c := 3) (g.map List.length) fun x hx => by
      obtain ⟨rs, hrs, rfl⟩ := List.mem_map.mp hx
      exact (h rs hrs).len.2
    rw [List.length_map] at this
    omega
  · have e : (g.flatMap fun rs => rs.map fun r => r.2.length) = (g.flatMap fun rs => rs).map fun r => r.2.length := by rw [List.map_flatMap]
    rw [e]
    have := sum_le (c := 3) ((g.flatMap fun rs => rs).map fun r => r.2.length) fun x hx => by
      obtain ⟨r, hr, rfl⟩ := List.mem_map.mp hx
      obtain ⟨rs, hrs, hr⟩ := List.mem_flatMap.mp hr
      exact ((h rs hrs).ok r hr).2
    rw [List.length_map] at this
    omega
end LW

namespace LW
open EV
variable {k : Nat}
abbrev vl (d : D) : Option Slot := some (.val d)
abbrev ow (ds : List D) : Option Slot := some (.own ds)
def sRew : D := .str [114, 101, 119, 97, 114, 100]
def sCal : D := .str [99, 97, 108, 108]
def sDrw : D := .str [100, 114, 97, 119]
def sExi : D := .str [101, 120, 105, 116]
def ptD (s : Sym) (after : Nat) : D := match s with
  | .l _ => .tup [sRew, R 1, .int (after : Nat)]
  | .v i => .tup [sCal, .int (i : Nat), .tup [.int (after : Nat)]]
def ptsR (last a : Nat) : List Sym → List D
  | [] => []
  | s :: ss => ptD s (if ss.isEmpty then last else a + 1) :: ptsR last (a + 1) ss
def brD (r : Rul) (p : Nat) : D := .tup [R r.1, .int (p : Nat)]
def brs (last a : Nat) : List Rul → List D
  | [] => []
  | r :: rs => brD r (if r.2.isEmpty then last else a) :: brs last (a + r.2.length) rs
def ptsA (last a : Nat) : List Rul → List D
  | [] => []
  | r :: rs => ptsR last a r.2 ++ ptsA last (a + r.2.length) rs
def sizeN (rs : List Rul) : Nat := (rs.map fun r => r.2.length).sum
def lastN (rs : List Rul) : Nat := 1 + sizeN rs
def procPts (rs : List Rul) : List D := [.tup [sDrw, .tup (brs (lastN rs) 1 rs)]] ++ ptsA (lastN rs) 1 rs ++ [.tup [sExi, .int 0]]
def procD (rs : List Rul) : D := .tup [.int 1, .tup (procPts rs)]
def graphD (g : List (List Rul)) : D := .tup (g.map procD)
theorem sizeN_app (a b : List Rul) : sizeN (a ++ b) = sizeN a + sizeN b := by unfold sizeN; rw [List.map_append, List.sum_append]
theorem brs_app (last : Nat) : ∀ (xs ys : List Rul) (a : Nat), brs last a (xs ++ ys) = brs last a xs ++ brs last (a + sizeN xs) ys
  | [], ys, a => rfl
  | r :: xs, ys, a => by
    have e : a + r.2.length + sizeN xs = a + sizeN (r :: xs) := by unfold sizeN; rw [List.map_cons, List.sum_cons]; omega
    rw [List.cons_append, brs, brs, brs_app last xs ys, e]; rfl
theorem ptsA_app (last : Nat) : ∀ (xs ys : List Rul) (a : Nat), ptsA last a (xs ++ ys) = ptsA last a xs ++ ptsA last (a + sizeN xs) ys
  | [], ys, a => rfl
  | r :: xs, ys, a => by
    have e : a + r.2.length + sizeN xs = a + sizeN (r :: xs) := by unfold sizeN; rw [List.map_cons, List.sum_cons]; omega
    rw [List.cons_append, ptsA, ptsA, ptsA_app last xs ys, e, List.append_assoc]
theorem ptsR_len (last : Nat) : ∀ (ss : List Sym) (a : Nat), (ptsR last a ss).length = ss.length
  | [], a => rfl
  | s :: ss, a => by rw [ptsR, List.length_cons, List.length_cons, ptsR_len last ss]
theorem ptsA_len (last : Nat) : ∀ (rs : List Rul) (a : Nat), (ptsA last a rs).length = sizeN rs
  | [], a => rfl
  | r :: rs, a => by
    rw [ptsA, List.length_append, ptsR_len, ptsA_len last rs]
    unfold sizeN
    rw [List.map_cons, List.sum_cons]
theorem brs_len (last : Nat) : ∀ (rs : List Rul) (a : Nat), (brs last a rs).length = rs.length
  | [], a => rfl
  | r :: rs, a => by rw [brs, List.length_cons, List.length_cons, brs_len last rs]
def zip1 (l : List D) (j : Nat) : List D := (l.zipIdx j).map fun p => .tup [.int p.2, p.1]
theorem zip1_cons (d : D) (l : List D) (j : Nat) : zip1 (d :: l) j = .tup [.int (j : Nat), d] :: zip1 l (j + 1) := rfl
/-! ### symbol_points -/
def in42 : Ss := .cons (.set 9 (.ite (.cmp .lt (.bin .add (.var 7) (.int (1))) (.bi .len (.cons (.var 6) (.nil)))) (.bin .add (.var 4) (.int (1))) (.var 1))) (.cons (.app 3 (.ite (.call 23 (.cons (.var 8) (.nil))) (.tup (.cons (.str [114, 101, 119, 97, 114, 100]) (.cons (.glo 2) (.cons (.var 9) (.nil))))) (.tup (.cons (.str [99, 97, 108, 108]) (.cons (.var 8) (.cons (.tup (.cons (.var 9) (.nil))) (.nil))))))) (.cons (.set 4 (.bin .add (.var 4) (.int (1)))) (.nil)))
def out42 : Ss := .cons (.app 2 (.tup (.cons (.var 5) (.cons (.ite (.cmp .gt (.bi .len (.cons (.var 6) (.nil))) (.int (0))) (.var 4) (.var 1)) (.nil))))) (.cons (.for_ (.tp (.cons (.nm 7) (.cons (.nm 8) (.nil)))) (.enum (.var 6)) in42) (.nil))
theorem len_map {α : Type} {f : α → D} (l : List α) : lenD (.tup (l.map f)) = some l.length := by
  show some (l.map f).length = _
  rw [List.length_map]
theorem bi_len {α : Type} {f : α → D} {l : List α} : biD .len [.tup (l.map f)] = some (.int (l.length : Nat)) := by
  show some (D.int ((l.map f).length : Nat)) = _
  rw [List.length_map]
theorem gt0 {α : Type} (l : List α) : cmpD .gt (.int (l.length : Nat)) (.int 0) = some (!l.isEmpty) := by
  cases l with
  | nil => rfl
  | cons a b =>
    show some (decide ((0 : Int) < ((b.length + 1 : Nat) : Int))) = some true
    rw [decide_eq_true (by omega)]
theorem cmp_lt_nat (a b : Nat) : cmpD .lt (.int (a : Nat)) (.int (b : Nat)) = some (decide (a < b)) := by
  show some (decide ((a : Int) < (b : Nat))) = _
  congr 1
  exact decide_eq_decide.mpr (by omega)
theorem isLetter {Z : Cxt} {K : Nat} (hcl : Z.cl = callF L.T (K + 1)) {n : Nat} {s : Sym} (o : okSym n s) {z : Sto} : callE (Z.cl 23 [s.d]) false [s.d] z = .ok (.bl (match s with | .l _ => true | .v _ => false)) z := by
  rw [hcl]
  cases s with
  | l c => exact callE_pure (letter23 o)
  | v i => exact callE_pure (letter23i _)
theorem inner42 {Z : Cxt} {K : Nat} (hcl : Z.cl = callF L.T (K + 1)) (c2 : Z.con[2]? = some (R 1)) {n last a : Nat} {ss : List Sym} (hs : ∀ s ∈ ss, okSym n s) (hl : ss.length ≤ 100) {X : List D} (hX : X.length ≤ 1000) {s0 s2 s5 s7 s8 s9 : Option Slot} {z : Sto} :
    ∃ t7 t8 t9, forL (fun d σ z => match asgT (.tp (.cons (.nm 7) (.cons (.nm 8) (.nil)))) d σ with
      | some σ => evSs Z in42 σ z
      | none => .err) (zip1 (ss.map Sym.d) 0) [s0, vl (.int (last : Nat)), s2, ow X, vl (.int (a : Nat)), s5, vl (.tup (ss.map Sym.d)), s7, s8, s9] z = .ok (.nx [s0, vl (.int (last : Nat)), s2, ow (X ++ ptsR last a ss), vl (.int ((a + ss.length : Nat) : Int)), s5, vl (.tup (ss.map Sym.d)), t7, t8, t9]) z := by
  obtain ⟨σ', z', e, hz, rest, done, front, s7, s8, s9, hd, hdr, hf, hσ⟩ := forL_inv (f := fun d σ z => match asgT (.tp (.cons (.nm 7) (.cons (.nm 8) (.nil)))) d σ with
      | some σ => evSs Z in42 σ z
      | none => .err) (fun ds σ z' => z' = z ∧ ∃ (rest done : List Sym) (front : List D) (s7 s8 s9 : Option Slot), ds = zip1 (rest.map Sym.d) done.length ∧ done ++ rest = ss ∧ front ++ ptsR last (a + done.length) rest = ptsR last a ss ∧ σ = [s0, vl (.int (last : Nat)), s2, ow (X ++ front), vl (.int ((a + done.length : Nat) : Int)), s5, vl (.tup (ss.map Sym.d)), s7, s8, s9])
    (fun d ds σ z' ⟨hz, rest, done, front, s7, s8, s9, hd, hdr, hf, hσ⟩ => by
      subst hz hσ
      cases rest with
      | nil => cases hd
      | cons s rest =>
        rw [List.map_cons, zip1_cons] at hd
        injection hd with h1 h2
        subst h1 h2
        have hlen : done.length + (rest.length + 1) = ss.length := by rw [← hdr]; simp
        have flen : front.length + (rest.length + 1) = ss.length := by
          have := congrArg List.length hf
          rw [List.length_append, ptsR_len, ptsR_len, List.length_cons] at this
          exact this
        have o : okSym n s := hs s (by rw [← hdr]; simp)
        refine ⟨[s0, vl (.int (last : Nat)), s2, ow (X ++ (front ++ [ptD s (if rest.isEmpty then last else a + done.length + 1)])), vl (.int ((a + (done ++ [s]).length : Nat) : Int)), s5, vl (.tup (ss.map Sym.d)), vl (.int (done.length : Nat)), vl s.d, vl (.int ((if rest.isEmpty then last else a + done.length + 1 : Nat) : Int))], z', ?_, rfl, rest, done ++ [s], front ++ [ptD s (if rest.isEmpty then last else a + done.length + 1)], _, _, _, by rw [List.length_append, List.length_singleton], by rw [List.append_assoc]; exact hdr, ?_, rfl⟩
        · show evSs Z in42 [s0, vl (.int (last : Nat)), s2, ow (X ++ front), vl (.int ((a + done.length : Nat) : Int)), s5, vl (.tup (ss.map Sym.d)), vl (.int (done.length : Nat)), vl s.d, s9] z' = _
          have e1 : evE Z (.ite (.cmp .lt (.bin .add (.var 7) (.int (1))) (.bi .len (.cons (.var 6) (.nil)))) (.bin .add (.var 4) (.int (1))) (.var 1)) [s0, vl (.int (last : Nat)), s2, ow (X ++ front), vl (.int ((a + done.length : Nat) : Int)), s5, vl (.tup (ss.map Sym.d)), vl (.int (done.length : Nat)), vl s.d, s9] z' = .ok (.int ((if rest.isEmpty then last else a + done.length + 1 : Nat) : Int)) z' := by
            refine (evE_ite (k := decide (done.length + 1 < ss.length)) (evE_cmp (x := .int ((done.length + 1 : Nat) : Int)) (y := .int (ss.length : Nat)) (evE_bin (x := .int (done.length : Nat)) (y := .int 1) rfl rfl rfl) (evE_bi1 (d := .tup (ss.map Sym.d)) rfl bi_len) (cmp_lt_nat _ _)) rfl).trans ?_
            cases rest with
            | nil =>
              have : ¬ done.length + 1 < ss.length := by simp at hlen; omega
              rw [decide_eq_false this]
              rfl
            | cons s' rest =>
              have : done.length + 1 < ss.length := by simp at hlen; omega
              rw [decide_eq_true this]
              rfl
          refine run_nx (evS_set e1) (run_nx (evS_app (z' := z') (ds := X ++ front) (d := ptD s (if rest.isEmpty then last else a + done.length + 1)) rfl ?_ (by rw [List.length_append]; unfold lim; omega)) (run_nx (evS_set (d := .int ((a + (done ++ [s]).length : Nat) : Int)) (z' := z') ?_) ?_))
          · refine (evE_ite (evE_call1 (x := s.d) rfl rfl (isLetter hcl o)) rfl).trans ?_
            cases s with
            | l c =>
              show evE Z (.tup _) _ z' = _
              simp only [evE, evEs, c2]
              rfl
            | v i =>
              show evE Z (.tup _) _ z' = _
              simp only [evE, evEs]
              rfl
          · refine evE_bin (x := .int ((a + done.length : Nat) : Int)) (y := .int 1) rfl rfl ?_
            rw [binD_add, List.length_append, List.length_singleton]
            rfl
          · rw [← List.append_assoc]
            rfl
        · rw [List.append_assoc, List.length_append, List.length_singleton, ← hf, ptsR, Nat.add_assoc]
          rfl) (zip1 (ss.map Sym.d) 0) _ z ⟨rfl, ss, [], [], s7, s8, s9, rfl, rfl, rfl, by rw [List.append_nil]⟩
  have hrest : rest = [] := by cases rest <;> first | rfl | cases hd
  subst hrest hz
  rw [List.append_nil] at hdr
  subst hdr
  have hf : front ++ [] = ptsR last a done := hf
  rw [List.append_nil] at hf
  subst hf
  exact ⟨s7, s8, s9, e.trans (by rw [hσ])⟩
theorem points42 {n : Nat} {rs : List Rul} (hs : ∀ r ∈ rs, ∀ s ∈ r.2, okSym n s) (h3 : ∀ r ∈ rs, r.2.length ≤ 4) (hl : rs.length ≤ 4) (hz : sizeN rs ≤ 16) : Pure L.T (k + 2) 42 [rulesD rs] (.tup (procPts rs)) := by
  refine pure_of (fd := f42) rfl rfl fun z => ?_
  obtain ⟨Z, hZ⟩ : ∃ Z : Cxt, Z = ⟨callF L.T (k + 1), L.T.con, L.T.W⟩ := ⟨_, rfl⟩
  have hcl : Z.cl = callF L.T (k + 1) := by rw [hZ]
  have c2 : Z.con[2]? = some (R 1) := by rw [hZ]; rfl
  rw [← hZ]
  obtain ⟨last, hlast⟩ : ∃ last, last = lastN rs := ⟨_, rfl⟩
  have e1 : evE Z (.bin .add (.int (1)) (.bi .sum (.cons (.comp (.tp (.cons (.nm 5) (.cons (.nm 6) (.nil)))) (.seq (.var 0)) (.bi .len (.cons (.var 6) (.nil)))) (.nil)))) [vl (rulesD rs), none, none, none, none, none, none, none, none, none] z = .ok (.int (last : Nat)) z := by
    have e := sum_map (Z := Z) (t := .tp (.cons (.nm 5) (.cons (.nm 6) (.nil)))) (it := .seq (.var 0)) (e := .bi .len (.cons (.var 6) (.nil))) (σ := [vl (rulesD rs), none, none, none, none, none, none, none, none, none]) (z := z) (z' := z) (ds := rs.map ruleD) (g := rlen) (evI_tup rfl) rfl (by rw [List.length_map]; unfold lim; omega) (fun d hd => by
      obtain ⟨r, hr, rfl⟩ := List.mem_map.mp hd
      exact ⟨_, rfl, rfl⟩)
    rw [rlen_sum] at e
    refine evE_bin (x := .int 1) rfl e ?_
    rw [binD_add, hlast]
    rfl
  obtain ⟨σ', z', e, hz', rest, done, s5, s6, s7, s8, s9, hd, hdr, hσ⟩ := forL_inv (f := fun d σ z => match asgT (.tp (.cons (.nm 5) (.cons (.nm 6) (.nil)))) d σ with
      | some σ => evSs Z out42 σ z
      | none => .err) (fun ds σ z' => z' = z ∧ ∃ (rest done : List Rul) (s5 s6 s7 s8 s9 : Option Slot), ds = rest.map ruleD ∧ done ++ rest = rs ∧ σ = [vl (rulesD rs), vl (.int (last : Nat)), ow (brs last 1 done), ow (ptsA last 1 done), vl (.int ((1 + sizeN done : Nat) : Int)), s5, s6, s7, s8, s9])
    (fun d ds σ z' ⟨hz', rest, done, s5, s6, s7, s8, s9, hd, hdr, hσ⟩ => by
      subst hz' hσ
      cases rest with
      | nil => cases hd
      | cons r rest =>
        rw [List.map_cons] at hd
        injection hd with h1 h2
        subst h1 h2
        have hr : r ∈ rs := by rw [← hdr]; simp
        have hsz : sizeN done ≤ sizeN rs := by rw [← hdr, sizeN_app]; omega
        have hdl : done.length + (rest.length + 1) = rs.length := by rw [← hdr]; simp
        obtain ⟨t7, t8, t9, e⟩ := inner42 (Z := Z) (K := k) hcl c2 (n := n) (last := last) (a := 1 + sizeN done) (ss := r.2) (hs r hr) (by have := h3 r hr; omega) (X := ptsA last 1 done) (by rw [ptsA_len]; omega) (s0 := vl (rulesD rs)) (s2 := ow (brs last 1 done ++ [brD r (if r.2.isEmpty then last else 1 + sizeN done)])) (s5 := vl (R r.1)) (s7 := s7) (s8 := s8) (s9 := s9) (z := z')
        refine ⟨_, z', ?_, rfl, rest, done ++ [r], vl (R r.1), vl (.tup (r.2.map Sym.d)), t7, t8, t9, rfl, by rw [List.append_assoc]; exact hdr, rfl⟩
        show evSs Z out42 [vl (rulesD rs), vl (.int (last : Nat)), ow (brs last 1 done), ow (ptsA last 1 done), vl (.int ((1 + sizeN done : Nat) : Int)), vl (R r.1), vl (.tup (r.2.map Sym.d)), s7, s8, s9] z' = _
        refine run_nx (evS_app (z' := z') (ds := brs last 1 done) (d := brD r (if r.2.isEmpty then last else 1 + sizeN done)) rfl ?_ (by rw [brs_len]; unfold lim; omega)) (run_nx (run_for (iv := .l (zip1 (r.2.map Sym.d) 0)) (evI_enumT (ds := r.2.map Sym.d) rfl) e) ?_)
        · have c : evE Z (.ite (.cmp .gt (.bi .len (.cons (.var 6) (.nil))) (.int (0))) (.var 4) (.var 1)) [vl (rulesD rs), vl (.int (last : Nat)), ow (brs last 1 done), ow (ptsA last 1 done), vl (.int ((1 + sizeN done : Nat) : Int)), vl (R r.1), vl (.tup (r.2.map Sym.d)), s7, s8, s9] z' = .ok (.int ((if r.2.isEmpty then last else 1 + sizeN done : Nat) : Int)) z' := by
            refine (evE_ite (k := !r.2.isEmpty) (evE_cmp (x := .int (r.2.length : Nat)) (y := .int 0) (evE_bi1 (d := .tup (r.2.map Sym.d)) rfl bi_len) rfl (gt0 r.2)) rfl).trans ?_
            cases r.2 <;> rfl
          unfold evE
          unfold evEs
          rw [show evE Z (.var 5) [vl (rulesD rs), vl (.int (last : Nat)), ow (brs last 1 done), ow (ptsA last 1 done), vl (.int ((1 + sizeN done : Nat) : Int)), vl (R r.1), vl (.tup (r.2.map Sym.d)), s7, s8, s9] z' = .ok (R r.1) z' from rfl, Res.bind_ok]
          unfold evEs
          rw [c]
          rfl
        · rw [brs_app, ptsA_app, sizeN_app, show sizeN [r] = r.2.length by simp [sizeN]]
          rw [show ptsA last (1 + sizeN done) [r] = ptsR last (1 + sizeN done) r.2 by unfold ptsA ptsA; rw [List.append_nil], Nat.add_assoc]
          rfl) (rs.map ruleD) [vl (rulesD rs), vl (.int (last : Nat)), ow [], ow [], vl (.int 1), none, none, none, none, none] z ⟨rfl, rs, [], none, none, none, none, none, rfl, rfl, rfl⟩
  have hrest : rest = [] := by cases rest <;> first | rfl | cases hd
  subst hrest hz'
  rw [List.append_nil] at hdr
  subst hdr hσ hlast
  refine run_nx (evS_set e1) (run_nx (evS_own (ds := []) rfl) (run_nx (evS_own (ds := []) rfl) (run_nx (evS_set (d := .int 1) rfl) (run_nx (run_for (iv := .l (done.map ruleD)) (evI_tup (ds := done.map ruleD) rfl) e) (run_rt (evS_ret ?_))))))
  refine evE_bin (x := .tup ([.tup [sDrw, .tup (brs (lastN done) 1 done)]] ++ ptsA (lastN done) 1 done)) (y := .tup [.tup [sExi, .int 0]]) (evE_bin (x := .tup [.tup [sDrw, .tup (brs (lastN done) 1 done)]]) (y := .tup (ptsA (lastN done) 1 done)) rfl rfl ?_) rfl ?_
  · show (if _ then _ else none) = _
    rw [if_pos (by rw [ptsA_len]; unfold lim; simp; omega)]
  · show (if _ then _ else none) = _
    rw [if_pos (by rw [List.length_append, ptsA_len]; unfold lim; simp; omega)]
    rfl
end LW

namespace LW
open EV
variable {k : Nat}
theorem cmp_eq_nat (a b : Nat) : cmpD .eq (.int (a : Nat)) (.int (b : Nat)) = some (decide (a = b)) := by
  show some ((a : Int) == (b : Nat)) = _
  congr 1
  by_cases h : a = b
  · rw [h, decide_eq_true rfl]; exact beq_self_eq_true _
  · rw [decide_eq_false h, beq_eq_false_iff_ne]; omega
def in64 : Ss := .cons (.set 11 (.ite (.cmp .eq (.bin .add (.var 9) (.int (1))) (.bi .len (.cons (.var 7) (.nil)))) (.var 3) (.bin .add (.bin .add (.var 8) (.var 9)) (.int (1))))) (.cons (.app 5 (.ite (.isi .str (.var 10)) (.tup (.cons (.str [114, 101, 119, 97, 114, 100]) (.cons (.tup (.cons (.int (1)) (.cons (.int (1)) (.nil)))) (.cons (.var 11) (.nil))))) (.tup (.cons (.str [99, 97, 108, 108]) (.cons (.var 10) (.cons (.tup (.cons (.var 11) (.nil))) (.nil))))))) (.nil))
def mid64 : Ss := .cons (.set 8 (.bin .add (.int (1)) (.bi .len (.cons (.bor 5) (.nil))))) (.cons (.app 4 (.tup (.cons (.var 6) (.cons (.ite (.var 7) (.var 8) (.var 3)) (.nil))))) (.cons (.for_ (.tp (.cons (.nm 9) (.cons (.nm 10) (.nil)))) (.enum (.var 7)) in64) (.nil)))
def out64 : Ss := .cons (.set 3 (.bin .add (.int (1)) (.bi .sum (.cons (.comp (.tp (.cons (.nm 6) (.cons (.nm 7) (.nil)))) (.seq (.var 2)) (.bi .len (.cons (.var 7) (.nil)))) (.nil))))) (.cons (.own 4 (.lst (.nil))) (.cons (.own 5 (.lst (.nil))) (.cons (.for_ (.tp (.cons (.nm 6) (.cons (.nm 7) (.nil)))) (.seq (.var 2)) mid64) (.cons (.app 1 (.tup (.cons (.int (1)) (.cons (.bin .add (.bin .add (.tup (.cons (.tup (.cons (.str [100, 114, 97, 119]) (.cons (.bi .tuple (.cons (.bor 4) (.nil))) (.nil)))) (.nil))) (.bi .tuple (.cons (.bor 5) (.nil)))) (.tup (.cons (.tup (.cons (.str [101, 120, 105, 116]) (.cons (.int (0)) (.nil)))) (.nil)))) (.nil))))) (.nil)))))
theorem inner64 {Z : Cxt} {last a : Nat} {ss : List Sym} (hl : ss.length ≤ 100) {X : List D} (hX : X.length ≤ 1000) {s0 s1 s2 s4 s6 s9 s10 s11 : Option Slot} {z : Sto} :
    ∃ t9 t10 t11, forL (fun d σ z => match asgT (.tp (.cons (.nm 9) (.cons (.nm 10) (.nil)))) d σ with
      | some σ => evSs Z in64 σ z
      | none => .err) (zip1 (ss.map Sym.d) 0) [s0, s1, s2, vl (.int (last : Nat)), s4, ow X, s6, vl (.tup (ss.map Sym.d)), vl (.int (a : Nat)), s9, s10, s11] z = .ok (.nx [s0, s1, s2, vl (.int (last : Nat)), s4, ow (X ++ ptsR last a ss), s6, vl (.tup (ss.map Sym.d)), vl (.int (a : Nat)), t9, t10, t11]) z := by
  obtain ⟨σ', z', e, hz, rest, done, front, s9, s10, s11, hd, hdr, hf, hσ⟩ := forL_inv (f := fun d σ z => match asgT (.tp (.cons (.nm 9) (.cons (.nm 10) (.nil)))) d σ with
      | some σ => evSs Z in64 σ z
      | none => .err) (fun ds σ z' => z' = z ∧ ∃ (rest done : List Sym) (front : List D) (s9 s10 s11 : Option Slot), ds = zip1 (rest.map Sym.d) done.length ∧ done ++ rest = ss ∧ front ++ ptsR last (a + done.length) rest = ptsR last a ss ∧ σ = [s0, s1, s2, vl (.int (last : Nat)), s4, ow (X ++ front), s6, vl (.tup (ss.map Sym.d)), vl (.int (a : Nat)), s9, s10, s11])
    (fun d ds σ z' ⟨hz, rest, done, front, s9, s10, s11, hd, hdr, hf, hσ⟩ => by
      subst hz hσ
      cases rest with
      | nil => cases hd
      | cons s rest =>
        rw [List.map_cons, zip1_cons] at hd
        injection hd with h1 h2
        subst h1 h2
        have hlen : done.length + (rest.length + 1) = ss.length := by rw [← hdr]; simp
        have flen : front.length + (rest.length + 1) = ss.length := by
          have := congrArg List.length hf
          rw [List.length_append, ptsR_len, ptsR_len, List.length_cons] at this
          exact this
        refine ⟨[s0, s1, s2, vl (.int (last : Nat)), s4, ow (X ++ (front ++ [ptD s (if rest.isEmpty then last else a + done.length + 1)])), s6, vl (.tup (ss.map Sym.d)), vl (.int (a : Nat)), vl (.int (done.length : Nat)), vl s.d, vl (.int ((if rest.isEmpty then last else a + done.length + 1 : Nat) : Int))], z', ?_, rfl, rest, done ++ [s], front ++ [ptD s (if rest.isEmpty then last else a + done.length + 1)], _, _, _, by rw [List.length_append, List.length_singleton], by rw [List.append_assoc]; exact hdr, ?_, rfl⟩
        · show evSs Z in64 [s0, s1, s2, vl (.int (last : Nat)), s4, ow (X ++ front), s6, vl (.tup (ss.map Sym.d)), vl (.int (a : Nat)), vl (.int (done.length : Nat)), vl s.d, s11] z' = _
          have e1 : evE Z (.ite (.cmp .eq (.bin .add (.var 9) (.int (1))) (.bi .len (.cons (.var 7) (.nil)))) (.var 3) (.bin .add (.bin .add (.var 8) (.var 9)) (.int (1)))) [s0, s1, s2, vl (.int (last : Nat)), s4, ow (X ++ front), s6, vl (.tup (ss.map Sym.d)), vl (.int (a : Nat)), vl (.int (done.length : Nat)), vl s.d, s11] z' = .ok (.int ((if rest.isEmpty then last else a + done.length + 1 : Nat) : Int)) z' := by
            refine (evE_ite (k := decide (done.length + 1 = ss.length)) (evE_cmp (x := .int ((done.length + 1 : Nat) : Int)) (y := .int (ss.length : Nat)) (evE_bin (x := .int (done.length : Nat)) (y := .int 1) rfl rfl rfl) (evE_bi1 (d := .tup (ss.map Sym.d)) rfl bi_len) (cmp_eq_nat _ _)) rfl).trans ?_
            cases rest with
            | nil =>
              have : done.length + 1 = ss.length := by simp at hlen; omega
              rw [decide_eq_true this]
              rfl
            | cons s' rest =>
              have : ¬ done.length + 1 = ss.length := by simp at hlen; omega
              rw [decide_eq_false this]
              rfl
          refine run_nx (evS_set e1) (run_nx (evS_app (z' := z') (ds := X ++ front) (d := ptD s (if rest.isEmpty then last else a + done.length + 1)) rfl ?_ (by rw [List.length_append]; unfold lim; omega)) ?_)
          · cases s with
            | l c => rfl
            | v i => rfl
          · rw [← List.append_assoc]
            rfl
        · rw [List.append_assoc, List.length_append, List.length_singleton, ← hf, ptsR, Nat.add_assoc]
          rfl) (zip1 (ss.map Sym.d) 0) _ z ⟨rfl, ss, [], [], s9, s10, s11, rfl, rfl, rfl, by rw [List.append_nil]⟩
  have hrest : rest = [] := by cases rest <;> first | rfl | cases hd
  subst hrest hz
  rw [List.append_nil] at hdr
  subst hdr
  have hf : front ++ [] = ptsR last a done := hf
  rw [List.append_nil] at hf
  subst hf
  exact ⟨s9, s10, s11, e.trans (by rw [hσ])⟩
theorem rules64 {Z : Cxt} {rs : List Rul} (h3 : ∀ r ∈ rs, r.2.length ≤ 4) (hl : rs.length ≤ 4) (hz : sizeN rs ≤ 16) {last : Nat} {s0 s1 s2 s8 s9 s10 s11 : Option Slot} {s6 s7 : Option D} {z : Sto} :
    ∃ (t6 t7 : Option D) (t8 t9 t10 t11 : Option Slot), forL (fun d σ z => match asgT (.tp (.cons (.nm 6) (.cons (.nm 7) (.nil)))) d σ with
      | some σ => evSs Z mid64 σ z
      | none => .err) (rs.map ruleD) [s0, s1, s2, vl (.int (last : Nat)), ow [], ow [], sv s6, sv s7, s8, s9, s10, s11] z = .ok (.nx [s0, s1, s2, vl (.int (last : Nat)), ow (brs last 1 rs), ow (ptsA last 1 rs), sv t6, sv t7, t8, t9, t10, t11]) z := by
  obtain ⟨σ', z', e, hz', rest, done, s6, s7, s8, s9, s10, s11, hd, hdr, hσ⟩ := forL_inv (f := fun d σ z => match asgT (.tp (.cons (.nm 6) (.cons (.nm 7) (.nil)))) d σ with
      | some σ => evSs Z mid64 σ z
      | none => .err) (fun ds σ z' => z' = z ∧ ∃ (rest done : List Rul) (s6 s7 : Option D) (s8 s9 s10 s11 : Option Slot), ds = rest.map ruleD ∧ done ++ rest = rs ∧ σ = [s0, s1, s2, vl (.int (last : Nat)), ow (brs last 1 done), ow (ptsA last 1 done), sv s6, sv s7, s8, s9, s10, s11])
    (fun d ds σ z' ⟨hz', rest, done, s6, s7, s8, s9, s10, s11, hd, hdr, hσ⟩ => by
      subst hz' hσ
      cases rest with
      | nil => cases hd
      | cons r rest =>
        rw [List.map_cons] at hd
        injection hd with h1 h2
        subst h1 h2
        have hr : r ∈ rs := by rw [← hdr]; simp
        have hsz : sizeN done ≤ sizeN rs := by rw [← hdr, sizeN_app]; omega
        have hdl : done.length + (rest.length + 1) = rs.length := by rw [← hdr]; simp
        obtain ⟨t9, t10, t11, e⟩ := inner64 (Z := Z) (last := last) (a := 1 + sizeN done) (ss := r.2) (by have := h3 r hr; omega) (X := ptsA last 1 done) (by rw [ptsA_len]; omega) (s0 := s0) (s1 := s1) (s2 := s2) (s4 := ow (brs last 1 done ++ [brD r (if r.2.isEmpty then last else 1 + sizeN done)])) (s6 := vl (R r.1)) (s9 := s9) (s10 := s10) (s11 := s11) (z := z')
        refine ⟨_, z', ?_, rfl, rest, done ++ [r], some (R r.1), some (.tup (r.2.map Sym.d)), vl (.int ((1 + sizeN done : Nat) : Int)), t9, t10, t11, rfl, by rw [List.append_assoc]; exact hdr, rfl⟩
        show evSs Z mid64 [s0, s1, s2, vl (.int (last : Nat)), ow (brs last 1 done), ow (ptsA last 1 done), vl (R r.1), vl (.tup (r.2.map Sym.d)), s8, s9, s10, s11] z' = _
        refine run_nx (evS_set (z' := z') (d := .int ((1 + sizeN done : Nat) : Int)) ?_) (run_nx (evS_app (z' := z') (ds := brs last 1 done) (d := brD r (if r.2.isEmpty then last else 1 + sizeN done)) rfl ?_ (by rw [brs_len]; unfold lim; omega)) (run_nx (run_for (iv := .l (zip1 (r.2.map Sym.d) 0)) (evI_enumT (ds := r.2.map Sym.d) rfl) e) ?_))
        · refine evE_bin (x := .int 1) (y := .int (sizeN done : Nat)) rfl (evE_bi1 (d := .lst (ptsA last 1 done)) rfl (by show some (D.int ((ptsA last 1 done).length : Nat)) = _; rw [ptsA_len])) ?_
          rw [binD_add]
          rfl
        · have c : ∀ (σ : Sg), σ[7]? = some (vl (.tup (r.2.map Sym.d))) → σ[8]? = some (vl (.int ((1 + sizeN done : Nat) : Int))) → σ[3]? = some (vl (.int (last : Nat))) → evE Z (.ite (.var 7) (.var 8) (.var 3)) σ z' = .ok (.int ((if r.2.isEmpty then last else 1 + sizeN done : Nat) : Int)) z' := fun σ h7 h8 h3 => by
            refine (evE_ite (k := !r.2.isEmpty) (d := .tup (r.2.map Sym.d)) (z' := z') (by unfold evE; rw [h7]) (by cases r.2 <;> rfl)).trans ?_
            cases r.2 with
            | nil =>
              show evE Z (.var 3) σ z' = _
              unfold evE
              rw [h3]
              rfl
            | cons a b =>
              show evE Z (.var 8) σ z' = _
              unfold evE
              rw [h8]
              rfl
          unfold evE
          unfold evEs
          rw [show evE Z (.var 6) _ z' = .ok (R r.1) z' from rfl, Res.bind_ok]
          unfold evEs
          rw [c _ rfl rfl rfl]
          rfl
        · rw [brs_app, ptsA_app, show brs last (1 + sizeN done) [r] = [brD r (if r.2.isEmpty then last else 1 + sizeN done)] from rfl]
          rw [show ptsA last (1 + sizeN done) [r] = ptsR last (1 + sizeN done) r.2 by unfold ptsA ptsA; rw [List.append_nil]]
          rfl) (rs.map ruleD) [s0, s1, s2, vl (.int (last : Nat)), ow [], ow [], sv s6, sv s7, s8, s9, s10, s11] z ⟨rfl, rs, [], s6, s7, s8, s9, s10, s11, rfl, rfl, rfl⟩
  have hrest : rest = [] := by cases rest <;> first | rfl | cases hd
  subst hrest hz'
  rw [List.append_nil] at hdr
  subst hdr
  exact ⟨_, _, _, _, _, _, e.trans (by rw [hσ])⟩
theorem graph64 {g : List (List Rul)} (h3 : ∀ rs ∈ g, ∀ r ∈ rs, r.2.length ≤ 4) (hl : ∀ rs ∈ g, rs.length ≤ 4) (hz : ∀ rs ∈ g, sizeN rs ≤ 16) (hg : g.length ≤ 6) : Pure L.T (k + 1) 64 [gramD g] (graphD g) := by
  refine pure_of (fd := f64) rfl rfl fun z => ?_
  obtain ⟨Z, hZ⟩ : ∃ Z : Cxt, Z = ⟨callF L.T k, L.T.con, L.T.W⟩ := ⟨_, rfl⟩
  rw [← hZ]
  obtain ⟨σ', z', e, hz', rest, done, s2, s3, s4, s5, s8, s9, s10, s11, hd, hdr, s6, s7, hv6, hv7, hσ⟩ := forL_inv (f := fun d σ z => match asgT (.nm 2) d σ with
      | some σ => evSs Z out64 σ z
      | none => .err) (fun ds σ z' => z' = z ∧ ∃ (rest done : List (List Rul)) (s2 s3 s4 s5 s8 s9 s10 s11 : Option Slot), ds = rest.map rulesD ∧ done ++ rest = g ∧ ∃ s6 s7 : Option D, True ∧ True ∧ σ = [vl (gramD g), ow (done.map procD), s2, s3, s4, s5, sv s6, sv s7, s8, s9, s10, s11])
    (fun d ds σ z' ⟨hz', rest, done, s2, s3, s4, s5, s8, s9, s10, s11, hd, hdr, s6, s7, _, _, hσ⟩ => by
      subst hz' hσ
      cases rest with
      | nil => cases hd
      | cons rs rest =>
        rw [List.map_cons] at hd
        injection hd with h1 h2
        subst h1 h2
        have hr : rs ∈ g := by rw [← hdr]; simp
        have hdl : done.length + (rest.length + 1) = g.length := by rw [← hdr]; simp
        have e1 : evE Z (.bin .add (.int (1)) (.bi .sum (.cons (.comp (.tp (.cons (.nm 6) (.cons (.nm 7) (.nil)))) (.seq (.var 2)) (.bi .len (.cons (.var 7) (.nil)))) (.nil)))) [vl (gramD g), ow (done.map procD), vl (rulesD rs), s3, s4, s5, sv s6, sv s7, s8, s9, s10, s11] z' = .ok (.int (lastN rs : Nat)) z' := by
          have e := sum_map (Z := Z) (t := .tp (.cons (.nm 6) (.cons (.nm 7) (.nil)))) (it := .seq (.var 2)) (e := .bi .len (.cons (.var 7) (.nil))) (σ := [vl (gramD g), ow (done.map procD), vl (rulesD rs), s3, s4, s5, sv s6, sv s7, s8, s9, s10, s11]) (z := z') (z' := z') (ds := rs.map ruleD) (g := rlen) (evI_tup rfl) (by cases s6 <;> cases s7 <;> rfl) (by rw [List.length_map]; have := hl rs hr; unfold lim; omega) (fun d hd => by
            obtain ⟨r, hr, rfl⟩ := List.mem_map.mp hd
            exact ⟨_, rfl, rfl⟩)
          rw [rlen_sum] at e
          refine evE_bin (x := .int 1) rfl e ?_
          rw [binD_add]
          rfl
        obtain ⟨t6, t7, t8, t9, t10, t11, e⟩ := rules64 (Z := Z) (rs := rs) (h3 rs hr) (hl rs hr) (hz rs hr) (last := lastN rs) (s0 := vl (gramD g)) (s1 := ow (done.map procD)) (s2 := vl (rulesD rs)) (s6 := s6) (s7 := s7) (s8 := s8) (s9 := s9) (s10 := s10) (s11 := s11) (z := z')
        refine ⟨_, z', ?_, rfl, rest, done ++ [rs], vl (rulesD rs), vl (.int (lastN rs : Nat)), ow (brs (lastN rs) 1 rs), ow (ptsA (lastN rs) 1 rs), t8, t9, t10, t11, rfl, by rw [List.append_assoc]; exact hdr, t6, t7, trivial, trivial, rfl⟩
        show evSs Z out64 [vl (gramD g), ow (done.map procD), vl (rulesD rs), s3, s4, s5, sv s6, sv s7, s8, s9, s10, s11] z' = _
        refine run_nx (evS_set e1) (run_nx (evS_own (ds := []) rfl) (run_nx (evS_own (ds := []) rfl) (run_nx (run_for (iv := .l (rs.map ruleD)) (evI_tup (ds := rs.map ruleD) rfl) e) (run_nx (evS_app (z' := z') (ds := done.map procD) (d := procD rs) rfl ?_ (by rw [List.length_map]; unfold lim; omega)) ?_))))
        · have hsz := hz rs hr
          unfold evE
          unfold evEs
          rw [show evE Z (.int 1) _ z' = .ok (.int 1) z' from rfl, Res.bind_ok]
          unfold evEs
          rw [evE_bin (d := .tup (procPts rs)) (x := .tup ([.tup [sDrw, .tup (brs (lastN rs) 1 rs)]] ++ ptsA (lastN rs) 1 rs)) (y := .tup [.tup [sExi, .int 0]]) (evE_bin (x := .tup [.tup [sDrw, .tup (brs (lastN rs) 1 rs)]]) (y := .tup (ptsA (lastN rs) 1 rs)) rfl rfl (by
            show (if _ then _ else none) = _
            rw [if_pos (by rw [ptsA_len]; unfold lim; simp; omega)])) rfl (by
            show (if _ then _ else none) = _
            rw [if_pos (by rw [List.length_append, ptsA_len]; unfold lim; simp; omega)]
            rfl)]
          rfl
        · rw [List.map_append]
          rfl) (g.map rulesD) _ z ⟨rfl, g, [], none, none, none, none, none, none, none, none, rfl, rfl, none, none, trivial, trivial, rfl⟩
  have hrest : rest = [] := by cases rest <;> first | rfl | cases hd
  subst hrest hz'
  rw [List.append_nil] at hdr
  subst hdr hσ
  exact run_nx (evS_own (ds := []) rfl) (run_nx (run_for (iv := .l (done.map rulesD)) (evI_tup (ds := done.map rulesD) rfl) e) (run_rt (evS_ret (evE_bi1 (d := .lst (done.map procD)) rfl rfl))))
end LW

namespace LW
open EV
variable {k : Nat}
theorem _root_.EV.Pure.ce {T : Tab} {k f : Nat} {ds : List D} {d : D} (h : Pure T k f ds d) {z : Sto} : callE (callF T k f ds) false ds z = .ok d z := callE_pure h
theorem sizeN_cons (r : Rul) (rs : List Rul) : sizeN (r :: rs) = r.2.length + sizeN rs := by unfold sizeN; rw [List.map_cons, List.sum_cons]
theorem ptsR_mem {last : Nat} : ∀ {ss : List Sym} {a : Nat} {d : D}, a + ss.length ≤ last → d ∈ ptsR last a ss → ∃ s ∈ ss, ∃ p, p ≤ last ∧ d = ptD s p
  | [], a, d, _, h => nomatch h
  | s :: ss, a, d, hl, h => by
    rw [List.length_cons] at hl
    rw [ptsR] at h
    rcases List.mem_cons.mp h with h | h
    · refine ⟨s, List.mem_cons_self, _, ?_, h⟩
      cases ss with
      | nil => exact Nat.le_refl _
      | cons b ss => show a + 1 ≤ last; omega
    · obtain ⟨s', hs, p, hp, e⟩ := ptsR_mem (by omega) h
      exact ⟨s', List.mem_cons_of_mem _ hs, p, hp, e⟩
theorem ptsA_mem {last : Nat} : ∀ {rs : List Rul} {a : Nat} {d : D}, a + sizeN rs ≤ last → d ∈ ptsA last a rs → ∃ r ∈ rs, ∃ s ∈ r.2, ∃ p, p ≤ last ∧ d = ptD s p
  | [], a, d, _, h => nomatch h
  | r :: rs, a, d, hl, h => by
    rw [sizeN_cons] at hl
    rw [ptsA] at h
    rcases List.mem_append.mp h with h | h
    · obtain ⟨s, hs, p, hp, e⟩ := ptsR_mem (by omega) h
      exact ⟨r, List.mem_cons_self, s, hs, p, hp, e⟩
    · obtain ⟨r', hr, s, hs, p, hp, e⟩ := ptsA_mem (by omega) h
      exact ⟨r', List.mem_cons_of_mem _ hr, s, hs, p, hp, e⟩
theorem procPts_len (rs : List Rul) : (procPts rs).length = lastN rs + 1 := by
  unfold procPts
  rw [List.length_append, List.length_append, ptsA_len]
  unfold lastN
  simp
theorem point62 {p n : Nat} (h : p < n) : Pure L.T (k + 3) 62 [.tup [.int (p : Nat)], .int (n : Nat)] .non := by
  refine pure_of (fd := f62) rfl rfl fun z => ?_
  have e := all_true (Z := ⟨callF L.T (k + 2), L.T.con, L.T.W⟩) (t := .nm 2) (it := .seq (.var 0)) (e := .call 14 (.cons (.var 2) (.cons (.var 1) (.nil)))) (σ := [vl (.tup [.int (p : Nat)]), vl (.int (n : Nat)), none]) (z := z) (z' := z) (ds := [.int (p : Nat)]) (evI_tup rfl) rfl (by show 1 ≤ lim; decide) (fun d hd => by
    rw [List.mem_singleton.mp hd]
    exact ⟨_, rfl, evE_call2 rfl rfl rfl rfl (callE_pure (index14 (k := k) (i := (p : Nat)) (n := (n : Nat)) (by omega)))⟩)
  exact run_rt ((evS_if e rfl).trans (run_rt rfl))
theorem amount63 : Pure L.T (k + 3) 63 [R 1] (.bl true) := by
  refine pure_of (fd := f63) rfl rfl fun z => ?_
  have p := EV.Pure.ce (rational30 (k := k) 1) (z := z)
  have c16 : L.T.con[16]? = some (.int 1000) := rfl
  have c17 : L.T.con[17]? = some (.int 12) := rfl
  have q : R 1 = .tup [.int 1, .int 1] := rfl
  rw [q] at p
  simp [f63, b63, evSs, evS, evE, evEs, hasBor, isBor, q, p, c16, c17, truD, cmpD, idxD, L2.atI, L2.ixN]
theorem form60_exit : Pure L.T (k + 2) 60 [.tup [sExi, .int 0]] (.bl true) := by
  refine pure_of (fd := f60) rfl rfl fun z => ?_
  have p := EV.Pure.ce (int22 (k := k) 0) (z := z)
  simp [f60, b60, evSs, evS, evE, evEs, hasBor, isBor, sExi, isi_tuple_tup, isi_str_str, lenD, biD, cmpD, eqD, D.pln, D.plns, D.dep, D.deps, D.eqv, D.eqvs, truD, idxD, L2.atI, L2.ixN, List.lookup, p]
theorem form60_pt {s : Sym} {a : Nat} : Pure L.T (k + 2) 60 [ptD s a] (.bl true) := by
  refine pure_of (fd := f60) rfl rfl fun z => ?_
  cases s with
  | l c => simp [f60, b60, evSs, evS, evE, evEs, hasBor, isBor, ptD, sRew, isi_tuple_tup, isi_str_str, lenD, biD, cmpD, eqD, D.pln, D.plns, D.dep, D.deps, D.eqv, D.eqvs, truD, idxD, L2.atI, L2.ixN, List.lookup]
  | v i =>
    have p := EV.Pure.ce (int22 (k := k) (i : Nat)) (z := z)
    simp [f60, b60, evSs, evS, evE, evEs, hasBor, isBor, ptD, sCal, isi_tuple_tup, isi_str_str, lenD, biD, cmpD, eqD, D.pln, D.plns, D.dep, D.deps, D.eqv, D.eqvs, truD, idxD, L2.atI, L2.ixN, List.lookup, p]
theorem brs_mem {last : Nat} : ∀ {rs : List Rul} {a : Nat} {d : D}, a + sizeN rs ≤ last → d ∈ brs last a rs → ∃ r ∈ rs, ∃ p, p ≤ last ∧ d = brD r p
  | [], a, d, _, h => nomatch h
  | r :: rs, a, d, hl, h => by
    rw [sizeN_cons] at hl
    rw [brs] at h
    rcases List.mem_cons.mp h with h | h
    · refine ⟨r, List.mem_cons_self, _, ?_, h⟩
      split <;> omega
    · obtain ⟨r', hr, p, hp, e⟩ := brs_mem (by omega) h
      exact ⟨r', List.mem_cons_of_mem _ hr, p, hp, e⟩
theorem form60_draw {last a : Nat} {rs : List Rul} (hl : a + sizeN rs ≤ last) (h4 : rs.length ≤ 4) : Pure L.T (k + 2) 60 [.tup [sDrw, .tup (brs last a rs)]] (.bl true) := by
  refine pure_of (fd := f60) rfl rfl fun z => ?_
  have e := all_true (Z := ⟨callF L.T (k + 1), L.T.con, L.T.W⟩) (t := .nm 1) (it := .seq (.idx (.var 0) (.int (1)))) (e := .and (.isi .tuple (.var 1)) (.one (.cmp .eq (.bi .len (.cons (.var 1) (.nil))) (.int (2))))) (σ := [vl (.tup [sDrw, .tup (brs last a rs)]), none]) (z := z) (z' := z) (ds := brs last a rs) (evI_tup rfl) rfl (by rw [brs_len]; unfold lim; omega) (fun d hd => by
    obtain ⟨r, _, p, _, rfl⟩ := brs_mem hl hd
    exact ⟨_, rfl, rfl⟩)
  have e2 : evE ⟨callF L.T (k + 1), L.T.con, L.T.W⟩ (.and (.isi .tuple (.idx (.var 0) (.int (1)))) (.one (.bi .all (.cons (.comp (.nm 1) (.seq (.idx (.var 0) (.int (1)))) (.and (.isi .tuple (.var 1)) (.one (.cmp .eq (.bi .len (.cons (.var 1) (.nil))) (.int (2)))))) (.nil))))) [vl (.tup [sDrw, .tup (brs last a rs)]), none] z = .ok (.bl true) z := by
    refine (evE_and_t (x := .bl true) (z1 := z) rfl rfl).trans ?_
    rw [evE_one]
    exact e
  refine run_same (evS_if_f (d := .bl false) rfl rfl) (run_same (evS_if_f (d := .bl false) rfl rfl) (run_same (evS_if_f (d := .bl false) rfl rfl) (run_rt ((evS_if (d := .bl true) (z' := z) rfl rfl).trans (run_rt (evS_ret e2))))))
theorem draw61 {last a m n : Nat} {rs : List Rul} (hl : a + sizeN rs ≤ last) (hm : last < m) (h : okRules n rs) : Pure L.T (k + 4) 61 [.tup (brs last a rs), .int (m : Nat)] .non := by
  refine pure_of (fd := f61) rfl rfl fun z => ?_
  obtain ⟨Z, hZ⟩ : ∃ Z : Cxt, Z = ⟨callF L.T (k + 3), L.T.con, L.T.W⟩ := ⟨_, rfl⟩
  have c15 : Z.con[15]? = some (.int 4) := by rw [hZ]; rfl
  have hcl : Z.cl = callF L.T (k + 3) := by rw [hZ]
  rw [← hZ]
  have hb := h.b
  have ha := h.a
  have bl := brs_len last rs a
  obtain ⟨σ', z', e, hz', rest, done, s3, s4, a', hd, hdr, hle, hσ⟩ := forL_inv (f := fun d σ z => match asgT (.tp (.cons (.nm 3) (.cons (.nm 4) (.nil)))) d σ with
      | some σ => evSs Z (.cons (.ife (.not (.call 29 (.cons (.var 3) (.nil)))) (.cons (.ret (.str [99, 104, 97, 110, 99, 101])) (.nil)) (.nil)) (.cons (.ife (.not (.call 14 (.cons (.var 4) (.cons (.var 1) (.nil))))) (.cons (.ret (.str [112, 111, 105, 110, 116])) (.nil)) (.nil)) (.cons (.set 2 (.call 16 (.cons (.var 2) (.cons (.var 3) (.nil))))) (.nil)))) σ z
      | none => .err) (fun ds σ z' => z' = z ∧ ∃ (rest done : List Rul) (s3 s4 : Option Slot) (a' : Nat), ds = brs last a' rest ∧ done ++ rest = rs ∧ a' + sizeN rest ≤ last ∧ σ = [vl (.tup (brs last a rs)), vl (.int (m : Nat)), vl (R (done.map (·.1)).sum), s3, s4])
    (fun d ds σ z' ⟨hz', rest, done, s3, s4, a', hd, hdr, hle, hσ⟩ => by
      subst hz' hσ
      cases rest with
      | nil => cases hd
      | cons r rest =>
        rw [brs] at hd
        injection hd with h1 h2
        subst h1 h2
        rw [sizeN_cons] at hle
        have hr : r ∈ rs := by rw [← hdr]; simp
        have hdl : done.length + (rest.length + 1) = rs.length := by rw [← hdr]; simp
        have o := h.r r hr
        obtain ⟨p, hp⟩ : ∃ p : Nat, p = if r.2.isEmpty then last else a' := ⟨_, rfl⟩
        have pm : p < m := by rw [hp]; split <;> omega
        rw [← hp]
        have qs : Q60 1 done.length (done.map (·.1)).sum := by
          have : ∀ l : List Rul, (∀ r ∈ l, Q60 1 0 r.1) → Q60 1 l.length (l.map (·.1)).sum := fun l => by
            induction l with
            | nil => exact fun _ => Q60.zero
            | cons r l ih =>
              intro hh
              rw [List.map_cons, List.sum_cons, List.length_cons]
              exact ((hh r List.mem_cons_self).up (Nat.le_refl _) (Nat.zero_le _)).add (ih fun s hs => hh s (List.mem_cons_of_mem _ hs))
          exact this done fun r hr => (h.r r (by rw [← hdr]; exact List.mem_append_left _ hr)).q
        refine ⟨_, z', ?_, rfl, rest, done ++ [r], vl (R r.1), vl (.int (p : Nat)), a' + r.2.length, rfl, by rw [List.append_assoc]; exact hdr, by omega, rfl⟩
        show evSs Z _ [vl (.tup (brs last a rs)), vl (.int (m : Nat)), vl (R (done.map (·.1)).sum), vl (R r.1), vl (.int (p : Nat))] z' = _
        have p29 := EV.Pure.ce (chance29 (k := k) r.1 o.p o.d) (z := z')
        have p14 := EV.Pure.ce (index14 (k := k + 1) (i := (p : Nat)) (n := (m : Nat)) (by omega)) (z := z')
        have p16 := EV.Pure.ce (plus16 (k := k + 1) (qs.sm (by decide) (by omega)) (o.q.sm (by decide) (by decide))) (z := z')
        rw [← hcl] at p29 p14 p16
        refine run_same (evS_if_f (d := .bl false) (evE_not (k := true) (evE_call1 rfl rfl p29) rfl) rfl) (run_same (evS_if_f (d := .bl false) (evE_not (k := true) (evE_call2 rfl rfl rfl rfl p14) rfl) rfl) (run_nx (evS_set (evE_call2 rfl rfl rfl rfl p16)) ?_))
        rw [List.map_append, List.sum_append]
        simp only [List.map_cons, List.map_nil, List.sum_cons, List.sum_nil, Rat.add_zero]
        rfl) (brs last a rs) [vl (.tup (brs last a rs)), vl (.int (m : Nat)), vl (R 0), none, none] z ⟨rfl, rs, [], none, none, a, rfl, rfl, hl, rfl⟩
  have hrest : rest = [] := by cases rest <;> first | rfl | cases hd
  subst hrest hz'
  rw [List.append_nil] at hdr
  subst hdr hσ
  rw [h.s] at e
  show evSs Z b61 [vl (.tup (brs last a done)), vl (.int (m : Nat)), none, none, none] z' = _
  unfold b61
  refine run_same (evS_if_f (d := .bl false) ?_ rfl) (run_nx (evS_set (d := R 0) (z' := z') rfl) (run_nx (run_for (iv := .l (brs last a done)) (evI_tup (ds := brs last a done) rfl) e) (run_rt (evS_ret ?_))))
  · simp [evE, evEs, truD, biD, lenD, cmpD, c15, bl, show decide ((1 : Int) ≤ (done.length : Nat)) = true from decide_eq_true (by omega), show decide (((done.length : Nat) : Int) ≤ 4) = true from decide_eq_true (by omega)]
  · exact (evE_ite (k := true) (d := .bl true) (z' := z') rfl rfl).trans rfl
theorem prob58_exit {g rs} : Pure L.T (k + 5) 58 [graphD g, procD rs, .tup [sExi, .int 0]] .non := by
  refine pure_of (fd := f58) rfl rfl fun z => ?_
  have p := EV.Pure.ce (form60_exit (k := k + 2)) (z := z)
  have q := EV.Pure.ce (index14 (k := k + 2) (i := 0) (n := 1) (by omega)) (z := z)
  show evSs _ b58 [vl (graphD g), vl (procD rs), vl (.tup [sExi, .int 0]), none, none] z = _
  unfold b58
  refine run_nx (evS_set (d := .int ((procPts rs).length : Nat)) (z' := z) rfl) (run_same (evS_if_f (d := .bl false) (evE_not (k := true) (evE_call1 rfl rfl p) rfl) rfl) (run_nx (evS_set (d := sExi) (z' := z) rfl) (run_rt ((evS_if (d := .bl true) (z' := z) rfl rfl).trans (run_rt (evS_ret ?_))))))
  exact (evE_ite (k := true) (evE_call2 (x := .int 0) (y := .int 1) rfl rfl rfl rfl q) rfl).trans rfl
theorem prob58_draw {g : List (List Rul)} {rs : List Rul} {n : Nat} (h : okRules n rs) : Pure L.T (k + 5) 58 [graphD g, procD rs, .tup [sDrw, .tup (brs (lastN rs) 1 rs)]] .non := by
  refine pure_of (fd := f58) rfl rfl fun z => ?_
  have p := EV.Pure.ce (form60_draw (k := k + 2) (last := lastN rs) (a := 1) (rs := rs) (Nat.le_refl _) h.b) (z := z)
  have q := EV.Pure.ce (draw61 (k := k) (last := lastN rs) (a := 1) (m := lastN rs + 1) (rs := rs) (Nat.le_refl _) (Nat.lt_succ_self _) h) (z := z)
  show evSs _ b58 [vl (graphD g), vl (procD rs), vl (.tup [sDrw, .tup (brs (lastN rs) 1 rs)]), none, none] z = _
  unfold b58
  refine run_nx (evS_set (d := .int ((lastN rs + 1 : Nat) : Int)) (z' := z) (evE_bi1 (d := .tup (procPts rs)) rfl (by rw [← procPts_len]; rfl))) (run_same (evS_if_f (d := .bl false) (evE_not (k := true) (evE_call1 rfl rfl p) rfl) rfl) (run_nx (evS_set (d := sDrw) (z' := z) rfl) (run_same (evS_if_f (d := .bl false) rfl rfl) (run_rt ((evS_if (d := .bl true) (z' := z) rfl rfl).trans (run_rt (evS_ret ?_)))))))
  exact evE_call2 (x := .tup (brs (lastN rs) 1 rs)) rfl rfl rfl rfl q
theorem idxD_tupN {z : Sto} {ds : List D} {i : Nat} {d : D} (h : ds[i]? = some d) : idxD z (.tup ds) (.int (i : Nat)) = some d := by
  have hi := (List.getElem?_eq_some_iff.mp h).1
  simp only [idxD, L2.atI, L2.ixN]
  rw [if_pos (by omega), if_pos (by omega)]
  simpa using h
theorem evE_idx {Z : Cxt} {a b : C} {σ : Sg} {z z1 z2 : Sto} {x y d : D} (h : evE Z a σ z = .ok x z1) (h2 : evE Z b σ z1 = .ok y z2) (hc : idxD z2 x y = some d) : evE Z (.idx a b) σ z = .ok d z2 := by
  unfold evE
  rw [h, Res.bind_ok, h2, Res.bind_ok, hc]
  rfl
theorem prob58_pt {g : List (List Rul)} {rs : List Rul} {s : Sym} {p : Nat} (ho : okSym g.length s) (hp : p ≤ lastN rs) : Pure L.T (k + 5) 58 [graphD g, procD rs, ptD s p] .non := by
  refine pure_of (fd := f58) rfl rfl fun z => ?_
  have pf := EV.Pure.ce (form60_pt (k := k + 2) (s := s) (a := p)) (z := z)
  have q := EV.Pure.ce (point62 (k := k + 1) (p := p) (n := lastN rs + 1) (by omega)) (z := z)
  show evSs _ b58 [vl (graphD g), vl (procD rs), vl (ptD s p), none, none] z = _
  unfold b58
  refine run_nx (evS_set (d := .int ((lastN rs + 1 : Nat) : Int)) (z' := z) (evE_bi1 (d := .tup (procPts rs)) rfl (by rw [← procPts_len]; rfl))) (run_same (evS_if_f (d := .bl false) (evE_not (k := true) (evE_call1 rfl rfl pf) rfl) rfl) ?_)
  cases s with
  | l c =>
    have am := EV.Pure.ce (amount63 (k := k + 1)) (z := z)
    refine run_nx (evS_set (d := sRew) (z' := z) rfl) (run_same (evS_if_f (d := .bl false) rfl rfl) (run_same (evS_if_f (d := .bl false) rfl rfl) (run_same (evS_if_f (d := .bl false) rfl rfl) (run_same (evS_if_f (d := .bl false) rfl rfl) (run_rt ((evS_if (d := .bl true) (z' := z) rfl rfl).trans (run_rt (evS_ret ?_))))))))
    refine (evE_ite (k := true) (evE_call1 (x := R 1) rfl rfl am) rfl).trans ?_
    exact evE_call2 (x := .tup [.int (p : Nat)]) rfl rfl rfl rfl q
  | v i =>
    have hi : i < g.length := ho
    have ix := EV.Pure.ce (index14 (k := k + 2) (i := (i : Nat)) (n := (g.length : Nat)) (by omega)) (z := z)
    refine run_nx (evS_set (d := sCal) (z' := z) rfl) (run_same (evS_if_f (d := .bl false) rfl rfl) (run_same (evS_if_f (d := .bl false) rfl rfl) (run_same (evS_if_f (d := .bl false) rfl rfl) (run_rt ((evS_if (d := .bl true) (z' := z) rfl rfl).trans ?_)))))
    refine run_same (evS_if_f (d := .bl false) (evE_not (k := true) (evE_call2 (x := .int (i : Nat)) (y := .int (g.length : Nat)) rfl (evE_bi1 (d := graphD g) rfl bi_len) rfl rfl ix) rfl) rfl) (run_same (evS_if_f (d := .bl false) ?_ rfl) (run_rt (evS_ret ?_)))
    · have e : evE ⟨callF L.T (k + 4), L.T.con, L.T.W⟩ (.idx (.idx (.var 0) (.idx (.var 2) (.int (1)))) (.int (0))) [vl (graphD g), vl (procD rs), vl (ptD (.v i) p), vl (.int ((lastN rs + 1 : Nat) : Int)), vl sCal] z = .ok (.int 1) z := by
        refine evE_idx (x := procD g[i]) (y := .int 0) (evE_idx (x := graphD g) (y := .int (i : Nat)) rfl rfl (idxD_tupN ?_)) rfl rfl
        rw [List.getElem?_map, List.getElem?_eq_getElem hi]
        rfl
      exact evE_cmp (x := .int 1) (y := .int 1) (z1 := z) rfl e rfl
    · exact evE_call2 (x := .tup [.int (p : Nat)]) rfl rfl rfl rfl q
theorem proc57 {rs : List Rul} {i : Int} (h : sizeN rs ≤ 10) : Pure L.T (k + 2) 57 [.int i, procD rs] .non := by
  intro z
  rw [callF_eq (fd := f57) rfl rfl]
  have p := EV.Pure.ce (int22 (k := k) 1) (z := z)
  have c13 : L.T.con[13]? = some (.int 3) := rfl
  have c14 : L.T.con[14]? = some (.int 16) := rfl
  have pl := procPts_len rs
  have pn : (procPts rs).length = 2 + sizeN rs := by rw [pl]; unfold lastN; omega
  have e : evSs ⟨callF L.T (k + 1), L.T.con, L.T.W⟩ b57 [vl (.int i), vl (procD rs)] z = .ok (.nx [vl (.int i), vl (procD rs)]) z := by
    unfold b57
    refine run_same (evS_if_f (d := .bl false) rfl rfl) (run_same (evS_if_f (d := .bl false) ?_ rfl) (run_same (evS_if_f (d := .bl false) ?_ rfl) (run_same (evS_if_f (d := .bl false) ?_ rfl) run_end)))
    · simp [evE, evEs, procD, hasBor, isBor, truD, idxD, L2.atI, L2.ixN, p, isi_tuple_tup]
    · simp [evE, evEs, procD, truD, idxD, L2.atI, L2.ixN, cmpD, c13]
    · simp [evE, evEs, procD, truD, idxD, L2.atI, L2.ixN, cmpD, c14, biD, lenD, pn, show decide ((1 : Int) ≤ 2 + (sizeN rs : Nat)) = true from decide_eq_true (by omega), show decide ((2 : Int) + (sizeN rs : Nat) ≤ 16) = true from decide_eq_true (by omega)]
  exact congrArg runS e
end LW

namespace EV
abbrev N0 : Sto := ⟨none, []⟩
/-- plain data of bounded depth -/
structure Gd (n : Nat) (d : D) : Prop where
  nos : d.nos = true
  pln : d.pln = true
  szb : d.szb = true
  dep : d.dep ≤ n
  lb : d.lb 0 = true
theorem gd_all {n : Nat} : ∀ {ds : List D}, (∀ d ∈ ds, Gd n d) → D.noss ds = true ∧ D.plns ds = true ∧ D.szbs ds = true ∧ D.deps ds ≤ n ∧ D.lbs 0 ds = true
  | [], _ => ⟨rfl, rfl, rfl, Nat.zero_le _, rfl⟩
  | d :: ds, h => by
    obtain ⟨a, b, c, e, f⟩ := gd_all fun x hx => h x (List.mem_cons_of_mem _ hx)
    have q := h d List.mem_cons_self
    refine ⟨?_, ?_, ?_, ?_, ?_⟩
    · unfold D.noss; rw [q.nos, a]; rfl
    · unfold D.plns; rw [q.pln, b]; rfl
    · unfold D.szbs; rw [q.szb, c]; rfl
    · unfold D.deps; exact Nat.max_le.mpr ⟨q.dep, e⟩
    · unfold D.lbs; rw [q.lb, f]; rfl
theorem Gd.tup {n : Nat} {ds : List D} (h : ∀ d ∈ ds, Gd n d) (hl : ds.length ≤ lim) : Gd (n + 1) (.tup ds) := by
  obtain ⟨a, b, c, e, f⟩ := gd_all h
  refine ⟨a, b, ?_, Nat.succ_le_succ e, f⟩
  unfold D.szb
  rw [decide_eq_true hl, c]
  rfl
theorem Gd.up {n m : Nat} {d : D} (h : Gd n d) (e : n ≤ m) : Gd m d := ⟨h.nos, h.pln, h.szb, Nat.le_trans h.dep e, h.lb⟩
theorem Gd.int {n : Nat} {i : Int} : Gd n (.int i) := ⟨rfl, rfl, rfl, Nat.zero_le _, rfl⟩
theorem Gd.str {n : Nat} {s : List Nat} : Gd n (.str s) := ⟨rfl, rfl, rfl, Nat.zero_le _, rfl⟩
end EV
namespace LW
open EV
variable {k : Nat}
/-- what the walks ask of a grammar -/
structure GG (g : List (List Rul)) : Prop where
  ok : okG g
  l3 : ∀ rs ∈ g, ∀ r ∈ rs, r.2.length ≤ 3
  sz : ∀ rs ∈ g, sizeN rs ≤ 9
  r3 : ∀ rs ∈ g, rs.length ≤ 3
theorem lim_le {n : Nat} (h : n ≤ 1000) : n ≤ lim := by unfold lim; omega
theorem gd_R (q : Rat) : Gd 1 (R q) := Gd.tup (by
  intro d hd
  simp only [List.mem_cons, List.not_mem_nil, or_false] at hd
  rcases hd with rfl | rfl <;> exact Gd.int) (by show 2 ≤ lim; decide)
theorem gd_tup2 {n : Nat} {a b : D} (h1 : Gd n a) (h2 : Gd n b) : Gd (n + 1) (.tup [a, b]) := Gd.tup (by
  intro d hd
  simp only [List.mem_cons, List.not_mem_nil, or_false] at hd
  rcases hd with rfl | rfl <;> assumption) (by show 2 ≤ lim; decide)
theorem gd_tup3 {n : Nat} {a b c : D} (h1 : Gd n a) (h2 : Gd n b) (h3 : Gd n c) : Gd (n + 1) (.tup [a, b, c]) := Gd.tup (by
  intro d hd
  simp only [List.mem_cons, List.not_mem_nil, or_false] at hd
  rcases hd with rfl | rfl | rfl <;> assumption) (by show 3 ≤ lim; decide)
theorem gd_pt {s : Sym} {p : Nat} : Gd 2 (ptD s p) := by
  cases s with
  | l c => exact gd_tup3 Gd.str (gd_R 1) Gd.int
  | v i => exact gd_tup3 Gd.str Gd.int (Gd.tup (n := 0) (by intro d hd; rw [List.mem_singleton.mp hd]; exact Gd.int) (by show 1 ≤ lim; decide))
theorem gd_proc {rs : List Rul} (h : sizeN rs ≤ 9) (h3 : rs.length ≤ 3) : Gd 6 (procD rs) := by
  refine gd_tup2 Gd.int (Gd.tup (n := 4) (fun d hd => ?_) (lim_le (by rw [procPts_len]; unfold lastN; omega)))
  unfold procPts at hd
  rcases List.mem_append.mp hd with hd | hd
  · rcases List.mem_append.mp hd with hd | hd
    · rw [List.mem_singleton.mp hd]
      refine gd_tup2 Gd.str (Gd.tup (n := 2) (fun d hd => ?_) (lim_le (by rw [brs_len]; omega)))
      obtain ⟨r, _, p, _, rfl⟩ := brs_mem (Nat.le_refl _) hd
      exact gd_tup2 (gd_R _) Gd.int
    · obtain ⟨r, _, s, _, p, _, rfl⟩ := ptsA_mem (Nat.le_refl _) hd
      exact gd_pt.up (by decide)
  · rw [List.mem_singleton.mp hd]
    exact (gd_tup2 (n := 0) Gd.str Gd.int).up (by decide)
theorem gd_graph {g : List (List Rul)} (h : GG g) : Gd 7 (graphD g) := Gd.tup (fun d hd => by
  obtain ⟨rs, hrs, rfl⟩ := List.mem_map.mp hd
  exact gd_proc (h.sz rs hrs) (h.r3 rs hrs)) (lim_le (by rw [List.length_map]; have := h.ok.b; omega))
theorem lequal65 {g : List (List Rul)} (h : GG g) : Pure L.T (k + 10) 65 [graphD g, graphD g] (.bl true) :=
  lequal_refl (T := L.T) (fe := 65) (fi := 68) rfl rfl (k + 8) (graphD g) (gd_graph h).pln (gd_graph h).szb (Nat.le_trans (gd_graph h).dep (by omega))
/-! ### the checks of a graph -/
def plen : D → Int
  | .tup [_, .tup ps] => ((ps.length : Nat) : Int)
  | _ => 0
theorem plen_sum : ∀ g : List (List Rul), ((g.map procD).map plen).sum = (((g.map fun rs => lastN rs + 1).sum : Nat) : Int)
  | [] => rfl
  | rs :: g => by
    rw [List.map_cons, List.map_cons, List.sum_cons, plen_sum g, List.map_cons, List.sum_cons]
    have : plen (procD rs) = ((lastN rs + 1 : Nat) : Int) := by rw [← procPts_len]; rfl
    rw [this]
    omega
def in51 : Ss := .cons (.set 5 (.call 58 (.cons (.var 0) (.cons (.var 2) (.cons (.var 4) (.nil)))))) (.cons (.ife (.isN true (.var 5)) (.cons (.raise 1 (.cons (.tup (.cons (.var 1) (.cons (.var 3) (.nil)))) (.cons (.var 5) (.nil)))) (.nil)) (.nil)) (.nil))
def out51 : Ss := .cons (.for_ (.tp (.cons (.nm 3) (.cons (.nm 4) (.nil)))) (.enum (.idx (.var 2) (.int (1)))) in51) (.nil)
theorem prob58 {g : List (List Rul)} (h : GG g) {rs : List Rul} (hr : rs ∈ g) {d : D} (hd : d ∈ procPts rs) : Pure L.T (k + 5) 58 [graphD g, procD rs, d] .non := by
  unfold procPts at hd
  rcases List.mem_append.mp hd with hd | hd
  · rcases List.mem_append.mp hd with hd | hd
    · rw [List.mem_singleton.mp hd]
      exact prob58_draw (h.ok.r rs hr)
    · obtain ⟨r, hr', s, hs, p, hp, rfl⟩ := ptsA_mem (Nat.le_refl _) hd
      exact prob58_pt (((h.ok.r rs hr).r r hr').s s hs) hp
  · rw [List.mem_singleton.mp hd]
    exact prob58_exit
theorem check51 {g : List (List Rul)} (h : GG g) : Pure L.T (k + 6) 51 [graphD g] .non := by
  intro z
  rw [callF_eq (fd := f51) rfl rfl]
  obtain ⟨Z, hZ⟩ : ∃ Z : Cxt, Z = ⟨callF L.T (k + 5), L.T.con, L.T.W⟩ := ⟨_, rfl⟩
  have hcl : Z.cl = callF L.T (k + 5) := by rw [hZ]
  have c11 : Z.con[11]? = some (.int 6) := by rw [hZ]; rfl
  have c12 : Z.con[12]? = some (.int 40) := by rw [hZ]; rfl
  have hl1 := h.ok.a
  have hl3 := h.ok.b
  rw [← hZ]
  obtain ⟨σ1, z1, e1, hz1, rest, s1, s2, hd, hm, hσ1⟩ := forL_inv (f := fun d σ z => match asgT (.tp (.cons (.nm 1) (.cons (.nm 2) (.nil)))) d σ with
      | some σ => evSs Z (.cons (.ex (.call 57 (.cons (.var 1) (.cons (.var 2) (.nil))))) (.nil)) σ z
      | none => .err) (fun ds σ z' => z' = z ∧ ∃ (rest : List (List Rul)) (s1 s2 : Option D), (∃ j, ds = zip1 (rest.map procD) j) ∧ (∀ rs ∈ rest, rs ∈ g) ∧ σ = [vl (graphD g), sv s1, sv s2, none, none, none])
    (fun d ds σ z' ⟨hz', rest, s1, s2, ⟨j, hd⟩, hm, hσ⟩ => by
      subst hz' hσ
      cases rest with
      | nil => cases hd
      | cons rs rest =>
        rw [List.map_cons, zip1_cons] at hd
        injection hd with h1 h2
        subst h1 h2
        have hr := hm rs List.mem_cons_self
        have p := (proc57 (k := k + 3) (i := (j : Nat)) (rs := rs) (by have := h.sz rs hr; omega)).ce (z := z')
        rw [← hcl] at p
        refine ⟨_, z', ?_, rfl, rest, some (.int (j : Nat)), some (procD rs), ⟨j + 1, rfl⟩, fun x hx => hm x (List.mem_cons_of_mem _ hx), rfl⟩
        show evSs Z _ [vl (graphD g), vl (.int (j : Nat)), vl (procD rs), none, none, none] z' = _
        refine run_same (z := z') ?_ run_end
        unfold evS bS
        rw [evE_call2 (x := .int (j : Nat)) (y := procD rs) rfl rfl rfl rfl p]) (zip1 (g.map procD) 0) [vl (graphD g), none, none, none, none, none] z ⟨rfl, g, none, none, ⟨0, rfl⟩, fun rs h => h, rfl⟩
  obtain ⟨σ2, z2, e2, hz2, rest2, _, _, _, _, _, hd2, hm2, hσ2⟩ := forL_inv (f := fun d σ z => match asgT (.tp (.cons (.nm 1) (.cons (.nm 2) (.nil)))) d σ with
      | some σ => evSs Z out51 σ z
      | none => .err) (fun ds σ z' => z' = z ∧ ∃ (rest : List (List Rul)) (s1 s2 s3 s4 s5 : Option Slot), (∃ j, ds = zip1 (rest.map procD) j) ∧ (∀ rs ∈ rest, rs ∈ g) ∧ σ = [vl (graphD g), s1, s2, s3, s4, s5])
    (fun d ds σ z' ⟨hz', rest, s1, s2, s3, s4, s5, ⟨j, hd⟩, hm, hσ⟩ => by
      subst hz' hσ
      cases rest with
      | nil => cases hd
      | cons rs rest =>
        rw [List.map_cons, zip1_cons] at hd
        injection hd with h1 h2
        subst h1 h2
        have hr := hm rs List.mem_cons_self
        obtain ⟨σ3, z3, e3, hz3, rest3, t3, t4, t5, _, _, hσ3⟩ := forL_inv (f := fun d σ z => match asgT (.tp (.cons (.nm 3) (.cons (.nm 4) (.nil)))) d σ with
            | some σ => evSs Z in51 σ z
            | none => .err) (fun ds σ z'' => z'' = z' ∧ ∃ (rest : List D) (s3 s4 s5 : Option Slot), (∃ j, ds = zip1 rest j) ∧ (∀ d ∈ rest, d ∈ procPts rs) ∧ σ = [vl (graphD g), vl (.int (j : Nat)), vl (procD rs), s3, s4, s5])
          (fun d ds σ z'' ⟨hz', rest, s3, s4, s5, ⟨j2, hd⟩, hm, hσ⟩ => by
            subst hz' hσ
            cases rest with
            | nil => cases hd
            | cons x rest =>
              rw [zip1_cons] at hd
              injection hd with h1 h2
              subst h1 h2
              have p := (prob58 (k := k) h hr (hm x List.mem_cons_self)).ce (z := z'')
              rw [← hcl] at p
              refine ⟨_, z'', ?_, rfl, rest, vl (.int (j2 : Nat)), vl x, vl .non, ⟨j2 + 1, rfl⟩, fun y hy => hm y (List.mem_cons_of_mem _ hy), rfl⟩
              show evSs Z in51 [vl (graphD g), vl (.int (j : Nat)), vl (procD rs), vl (.int (j2 : Nat)), vl x, s5] z'' = _
              exact run_nx (evS_set (evE_call3 (x := graphD g) (y := procD rs) (w := x) rfl rfl rfl rfl rfl rfl p)) (run_same (evS_if_f (d := .bl false) rfl rfl) run_end)) (zip1 (procPts rs) 0) [vl (graphD g), vl (.int (j : Nat)), vl (procD rs), s3, s4, s5] z' ⟨rfl, procPts rs, s3, s4, s5, ⟨0, rfl⟩, fun d h => h, rfl⟩
        subst hz3
        refine ⟨σ3, z3, ?_, rfl, rest, vl (.int (j : Nat)), vl (procD rs), t3, t4, t5, ⟨j + 1, rfl⟩, fun x hx => hm x (List.mem_cons_of_mem _ hx), hσ3⟩
        show evSs Z out51 [vl (graphD g), vl (.int (j : Nat)), vl (procD rs), s3, s4, s5] z3 = _
        exact run_nx (run_for (iv := .l (zip1 (procPts rs) 0)) (evI_enumT (ds := procPts rs) rfl) e3) run_end) (zip1 (g.map procD) 0) σ1 z1 ⟨hz1, g, sv s1, sv s2, none, none, none, ⟨0, rfl⟩, fun rs h => h, hσ1⟩
  subst hz1 hz2
  have es := sum_map (Z := Z) (t := .nm 2) (it := .seq (.var 0)) (e := .bi .len (.cons (.idx (.var 2) (.int (1))) (.nil))) (σ := σ1) (z := z2) (z' := z2) (ds := g.map procD) (g := plen) (by rw [hσ1]; exact evI_tup rfl) (by rw [hσ1]; cases s2 <;> rfl) (lim_le (by rw [List.length_map]; omega)) (fun d hd => by
    obtain ⟨rs, hr, rfl⟩ := List.mem_map.mp hd
    rw [hσ1]
    exact ⟨_, rfl, rfl⟩)
  have e : evSs Z b51 [vl (graphD g), none, none, none, none, none] z2 = .ok (.nx σ2) z2 := by
    unfold b51
    refine run_same (evS_if_f (d := .bl false) rfl rfl) (run_same (evS_if_f (d := .bl false) ?_ rfl) (run_nx (run_for (iv := .l (zip1 (g.map procD) 0)) (evI_enumT (ds := g.map procD) rfl) e1) (run_same (evS_if_f (d := .bl false) ?_ rfl) (run_nx (run_for (iv := .l (zip1 (g.map procD) 0)) (by rw [hσ1]; exact evI_enumT (ds := g.map procD) rfl) e2) run_end))))
    · simp [evE, evEs, graphD, truD, cmpD, c11, biD, lenD, show decide ((1 : Int) ≤ (g.length : Nat)) = true from decide_eq_true (by omega), show decide (((g.length : Nat) : Int) ≤ 6) = true from decide_eq_true (by omega)]
    · refine evE_cmp (y := .int 40) es (by unfold evE; rw [c12]; rfl) ?_
      show some (decide _) = _
      congr 1
      apply decide_eq_false
      rw [plen_sum]
      have := sum_le (c := 11) (g.map fun rs => lastN rs + 1) fun x hx => by
        obtain ⟨rs, hr, rfl⟩ := List.mem_map.mp hx
        have := h.sz rs hr
        unfold lastN
        omega
      rw [List.length_map] at this
      omega
  exact congrArg runS e
def cellG (g : List (List Rul)) : Cell := .ins 0 [(0, graphD g)]
theorem init41 {g : List (List Rul)} (h : GG g) : callF L.T (k + 7) 41 [.loc 0, graphD g] ⟨none, [.ins 0 []]⟩ = .ok .non ⟨none, [cellG g]⟩ := by
  rw [callF_eq (fd := f41) rfl rfl]
  have p := (check51 (k := k) h).ce (z := ⟨none, [.ins 0 []]⟩)
  have e : evSs ⟨callF L.T (k + 6), L.T.con, L.T.W⟩ b41 [vl (.loc 0), vl (graphD g)] ⟨none, [.ins 0 []]⟩ = .ok (.nx [vl (.loc 0), vl (graphD g)]) ⟨none, [cellG g]⟩ := by
    unfold b41
    refine run_same (z := ⟨none, [.ins 0 []]⟩) ?_ (run_nx (σ' := [vl (.loc 0), vl (graphD g)]) (z' := ⟨none, [cellG g]⟩) ?_ run_end)
    · unfold evS bS
      rw [evE_call1 (x := graphD g) rfl rfl p]
    · rfl
  exact congrArg runS e
theorem graph37 {g : List (List Rul)} (h : GG g) : callF L.T (k + 8) 37 [gramD g] N0 = .ok (.loc 0) ⟨none, [cellG g]⟩ := by
  rw [callF_eq (fd := f37) rfl rfl]
  obtain ⟨Z, hZ⟩ : ∃ Z : Cxt, Z = ⟨callF L.T (k + 7), L.T.con, L.T.W⟩ := ⟨_, rfl⟩
  have hcl : Z.cl = callF L.T (k + 7) := by rw [hZ]
  rw [← hZ]
  have hl3 := h.ok.b
  have p25 := (check25 (k := k) h.ok).ce (z := N0)
  rw [← hcl] at p25
  have e1 : evE Z (.comp (.nm 1) (.seq (.var 0)) (.tup (.cons (.int (1)) (.cons (.call 42 (.cons (.var 1) (.nil))) (.nil))))) [vl (gramD g), none] N0 = .ok (.lst (g.map procD)) N0 := by
    refine comp_mapA (h := rulesD) (g := procD) (evI_tup rfl) rfl (lim_le (by omega)) fun rs hr => ⟨_, rfl, ?_⟩
    have p := (points42 (k := k + 5) (n := g.length) (rs := rs) (fun r hr' => ((h.ok.r rs hr).r r hr').s) (fun r hr' => by have := h.l3 rs hr r hr'; omega) (by have := h.r3 rs hr; omega) (by have := h.sz rs hr; omega)).ce (z := N0)
    rw [← hcl] at p
    show evE Z _ [vl (gramD g), vl (rulesD rs)] N0 = _
    unfold evE
    unfold evEs
    rw [show evE Z (.int 1) _ N0 = .ok (.int 1) N0 from rfl, Res.bind_ok]
    unfold evEs
    rw [evE_call1 (x := rulesD rs) rfl rfl p]
    rfl
  have e2 : evE Z (.makeK 0 41 (.cons (.bi .tuple (.cons (.comp (.nm 1) (.seq (.var 0)) (.tup (.cons (.int (1)) (.cons (.call 42 (.cons (.var 1) (.nil))) (.nil))))) (.nil))) (.nil))) [vl (gramD g), none] N0 = .ok (.loc 0) ⟨none, [cellG g]⟩ := by
    have q := init41 (k := k) h
    rw [← hcl] at q
    have c := callE_none (cl := Z.cl 41 [.loc 0, graphD g]) (ds := [.loc 0, graphD g]) (d := .non) (cs := [.ins 0 []]) (cs' := [cellG g]) (by unfold D.noss D.noss D.noss; rw [(gd_graph h).nos]; rfl) q
    rw [trim_eq (d := .non) (cs := [Cell.ins 0 []]) (cs' := [cellG g]) rfl] at c
    have a : evEs Z (.cons (.bi .tuple (.cons (.comp (.nm 1) (.seq (.var 0)) (.tup (.cons (.int (1)) (.cons (.call 42 (.cons (.var 1) (.nil))) (.nil))))) (.nil))) (.nil)) [vl (gramD g), none] N0 = .ok [graphD g] N0 := by
      unfold evEs
      rw [evE_bi1 (x := graphD g) e1 rfl]
      rfl
    unfold evE
    rw [a, Res.bind_ok]
    show (match callE (Z.cl 41 [.loc 0, graphD g]) false [.loc 0, graphD g] ⟨none, [.ins 0 []]⟩ with
      | .ok .non z' => Res.ok (D.loc 0) z'
      | _ => .err) = _
    rw [c]
  have e : evSs Z b37 [vl (gramD g), none] N0 = .ok (.rt (.loc 0)) ⟨none, [cellG g]⟩ := by
    unfold b37
    refine run_same (z := N0) ?_ (run_rt (evS_ret e2))
    unfold evS bS
    rw [evE_call1 (x := gramD g) rfl rfl p25]
  exact congrArg runS e
end LW

namespace LW
open EV
variable {k : Nat}
/-! ### points and places as data -/
inductive Pt where
  | drw (l : List (Rul × Nat))
  | mv (s : Sym) (p : Nat)
  | exi
def Pt.d : Pt → D
  | .drw l => .tup [sDrw, .tup (l.map fun m => brD m.1 m.2)]
  | .mv s p => ptD s p
  | .exi => .tup [sExi, .int 0]
def brP (last a : Nat) : List Rul → List (Rul × Nat)
  | [] => []
  | r :: rs => (r, if r.2.isEmpty then last else a) :: brP last (a + r.2.length) rs
def mvR (last a : Nat) : List Sym → List (Sym × Nat)
  | [] => []
  | s :: ss => (s, if ss.isEmpty then last else a + 1) :: mvR last (a + 1) ss
def mvA (last a : Nat) : List Rul → List (Sym × Nat)
  | [] => []
  | r :: rs => mvR last a r.2 ++ mvA last (a + r.2.length) rs
theorem brP_eq (last : Nat) : ∀ (rs : List Rul) (a : Nat), brs last a rs = (brP last a rs).map fun m => brD m.1 m.2
  | [], a => rfl
  | r :: rs, a => by rw [brs, brP, List.map_cons, brP_eq last rs]
theorem mvR_eq (last : Nat) : ∀ (ss : List Sym) (a : Nat), ptsR last a ss = (mvR last a ss).map fun m => ptD m.1 m.2
  | [], a => rfl
  | s :: ss, a => by rw [ptsR, mvR, List.map_cons, mvR_eq last ss]
theorem mvA_eq (last : Nat) : ∀ (rs : List Rul) (a : Nat), ptsA last a rs = (mvA last a rs).map fun m => ptD m.1 m.2
  | [], a => rfl
  | r :: rs, a => by rw [ptsA, mvA, List.map_append, mvA_eq last rs, mvR_eq]
def ptM (rs : List Rul) : List Pt := .drw (brP (lastN rs) 1 rs) :: ((mvA (lastN rs) 1 rs).map fun m => Pt.mv m.1 m.2) ++ [.exi]
theorem ptM_eq (rs : List Rul) : procPts rs = (ptM rs).map Pt.d := by
  unfold procPts ptM
  rw [brP_eq, mvA_eq, List.map_append, List.map_cons, List.map_map]
  rfl
theorem ptM_len (rs : List Rul) : (ptM rs).length = lastN rs + 1 := by rw [← procPts_len, ptM_eq, List.length_map]
def tgt (a : Nat) : Pt → List (Nat × Nat)
  | .drw l => l.map fun m => (a, m.2)
  | .mv (.l _) p => [(a, p)]
  | .mv (.v i) p => [(a, p), (i, 0)]
  | .exi => []
def placeD (q : Nat × Nat) : D := .ktp [.i (q.1 : Nat), .i (q.2 : Nat)]
def ptAt (g : List (List Rul)) (q : Nat × Nat) : Option Pt := (g[q.1]?).bind fun rs => (ptM rs)[q.2]?
def placesFrom (a : Nat) : List (List Rul) → List (Nat × Nat)
  | [] => []
  | rs :: g => ((List.range (lastN rs + 1)).map fun b => (a, b)) ++ placesFrom (a + 1) g
def places (g : List (List Rul)) : List (Nat × Nat) := placesFrom 0 g
def named (g : List (List Rul)) (q : Nat × Nat) : List (Nat × Nat) := match ptAt g q with
  | some pt => (places g).filter fun p => decide (p ∈ tgt q.1 pt)
  | none => []
/-! ### the methods of a graph in its cell -/
def SG (g : List (List Rul)) : Sto := ⟨none, [cellG g]⟩
def PS (g : List (List Rul)) (f : Nat) (K : Nat) (ds : List D) (d : D) : Prop := callF L.T K f ds (SG g) = .ok d (SG g)
theorem callE_S {g : List (List Rul)} {cl : Sto → Res D} {ds : List D} {d : D} (hn : D.noss ds = true) (h : cl (SG g) = .ok d (SG g)) : callE cl false ds (SG g) = .ok d (SG g) := by
  have e := callE_none (cl := cl) (ds := ds) (d := d) (cs := [cellG g]) (cs' := [cellG g]) hn h
  rw [trim_self] at e
  exact e
theorem evE_meth {g : List (List Rul)} {Z : Cxt} {f : Nat} {a : C} {es : Cs} {σ : Sg} {ds : List D} {d : D} (h : evE Z a σ (SG g) = .ok (.loc 0) (SG g)) (h2 : evEs Z es σ (SG g) = .ok ds (SG g)) (hn : D.noss ds = true) (p : Z.cl f (.loc 0 :: ds) (SG g) = .ok d (SG g)) : evE Z (.meth 0 f a es) σ (SG g) = .ok d (SG g) := by
  unfold evE
  rw [h, Res.bind_ok]
  show (evEs Z es σ (SG g)).bind _ = _
  rw [h2, Res.bind_ok]
  exact callE_S (by unfold D.noss; rw [hn]; rfl) p
theorem attr0 {g : List (List Rul)} {Z : Cxt} {a : C} {σ : Sg} (h : evE Z a σ (SG g) = .ok (.loc 0) (SG g)) : evE Z (.attr a 0 0) σ (SG g) = .ok (graphD g) (SG g) := by
  unfold evE
  rw [h, Res.bind_ok]
  rfl
def okP (g : List (List Rul)) (q : Nat × Nat) : Prop := ∃ rs, g[q.1]? = some rs ∧ q.2 < lastN rs + 1
theorem okP_pt {g : List (List Rul)} {q : Nat × Nat} (h : okP g q) : ∃ rs pt, g[q.1]? = some rs ∧ (ptM rs)[q.2]? = some pt ∧ ptAt g q = some pt := by
  obtain ⟨rs, e, l⟩ := h
  have hl : q.2 < (ptM rs).length := by rw [ptM_len]; exact l
  refine ⟨rs, (ptM rs)[q.2], e, List.getElem?_eq_getElem hl, ?_⟩
  unfold ptAt
  rw [e]
  exact List.getElem?_eq_getElem hl
theorem idx_place0 {z : Sto} {q : Nat × Nat} : idxD z (placeD q) (.int 0) = some (.int (q.1 : Nat)) := rfl
theorem idx_place1 {z : Sto} {q : Nat × Nat} : idxD z (placeD q) (.int 1) = some (.int (q.2 : Nat)) := rfl
theorem graph_get {g : List (List Rul)} {i : Nat} {rs : List Rul} (h : g[i]? = some rs) {z : Sto} : idxD z (graphD g) (.int (i : Nat)) = some (procD rs) := idxD_tupN (by rw [List.getElem?_map, h]; rfl)
theorem place71 {g : List (List Rul)} {q : Nat × Nat} (h : okP g q) : PS g 71 (k + 3) [.loc 0, placeD q] (.bl true) := by
  obtain ⟨rs, e, l⟩ := h
  have hi : q.1 < g.length := (List.getElem?_eq_some_iff.mp e).1
  unfold PS
  rw [callF_eq (fd := f71) rfl rfl]
  have p1 := (index14 (k := k) (i := (q.1 : Nat)) (n := (g.length : Nat)) (by omega)).ce (z := SG g)
  have p2 := (index14 (k := k) (i := (q.2 : Nat)) (n := ((lastN rs + 1 : Nat) : Int)) (by omega)).ce (z := SG g)
  have r : evSs ⟨callF L.T (k + 2), L.T.con, L.T.W⟩ b71 [vl (.loc 0), vl (placeD q)] (SG g) = .ok (.rt (.bl true)) (SG g) := by
    unfold b71
    refine run_same (evS_if_f (d := .bl false) ?_ rfl) (run_rt (evS_ret ?_))
    · have a : evE ⟨callF L.T (k + 2), L.T.con, L.T.W⟩ (.call 14 (.cons (.idx (.var 1) (.int (0))) (.cons (.bi .len (.cons (.attr (.var 0) 0 0) (.nil))) (.nil)))) [vl (.loc 0), vl (placeD q)] (SG g) = .ok (.bl true) (SG g) :=
        evE_call2 (x := .int (q.1 : Nat)) (y := .int (g.length : Nat)) rfl (evE_bi1 (attr0 rfl) bi_len) rfl rfl p1
      have b := evE_not (k := true) a rfl
      show evE _ (.or _ (.or _ (.one _))) _ _ = _
      simp only [evE] at b ⊢
      simp [b, placeD, isiD, truD, evEs, biD, lenD, cmpD, eqD, D.pln, D.dep, D.eqv] at b ⊢
      exact b
    · refine evE_call2 (x := .int (q.2 : Nat)) (y := .int ((lastN rs + 1 : Nat) : Int)) rfl ?_ rfl rfl p2
      refine evE_bi1 (d := .tup (procPts rs)) ?_ (by rw [← procPts_len]; rfl)
      exact evE_idx (x := procD rs) (y := .int 1) (evE_idx (x := graphD g) (y := .int (q.1 : Nat)) (attr0 rfl) rfl (graph_get e)) rfl rfl
  exact congrArg runS r
end LW

namespace LW
open EV
variable {k : Nat}
theorem check69 {g : List (List Rul)} {q : Nat × Nat} (h : okP g q) : PS g 69 (k + 4) [.loc 0, placeD q] .non := by
  unfold PS
  rw [callF_eq (fd := f69) rfl rfl]
  have a : evE ⟨callF L.T (k + 3), L.T.con, L.T.W⟩ (.meth 0 71 (.var 0) (.cons (.var 1) (.nil))) [vl (.loc 0), vl (placeD q)] (SG g) = .ok (.bl true) (SG g) := evE_meth (ds := [placeD q]) rfl rfl rfl (place71 (k := k) h)
  have r : evSs ⟨callF L.T (k + 3), L.T.con, L.T.W⟩ b69 [vl (.loc 0), vl (placeD q)] (SG g) = .ok (.nx [vl (.loc 0), vl (placeD q)]) (SG g) := by
    unfold b69
    exact run_same (evS_if_f (d := .bl false) (evE_not (k := true) a rfl) rfl) run_end
  exact congrArg runS r
theorem evS_ex {Z : Cxt} {e : C} {σ : Sg} {z z' : Sto} {d : D} (h : evE Z e σ z = .ok d z') : evS Z (.ex e) σ z = .ok (.nx σ) z' := by
  unfold evS bS
  rw [h]
theorem point72 {g : List (List Rul)} {q : Nat × Nat} (h : okP g q) {pt : Pt} (hp : ptAt g q = some pt) : PS g 72 (k + 5) [.loc 0, placeD q] pt.d := by
  obtain ⟨rs, pt', e, e2, e3⟩ := okP_pt h
  rw [hp] at e3
  cases e3
  unfold PS
  rw [callF_eq (fd := f72) rfl rfl]
  have a : evE ⟨callF L.T (k + 4), L.T.con, L.T.W⟩ (.meth 0 69 (.var 0) (.cons (.var 1) (.nil))) [vl (.loc 0), vl (placeD q)] (SG g) = .ok .non (SG g) := evE_meth (ds := [placeD q]) rfl rfl rfl (check69 (k := k) h)
  have r : evSs ⟨callF L.T (k + 4), L.T.con, L.T.W⟩ b72 [vl (.loc 0), vl (placeD q)] (SG g) = .ok (.rt pt.d) (SG g) := by
    unfold b72
    refine run_nx (evS_ex a) (run_rt (evS_ret ?_))
    refine evE_idx (x := .tup (procPts rs)) (y := .int (q.2 : Nat)) (evE_idx (x := procD rs) (y := .int 1) (evE_idx (x := graphD g) (y := .int (q.1 : Nat)) (attr0 rfl) rfl (graph_get e)) rfl rfl) rfl ?_
    rw [ptM_eq]
    exact idxD_tupN (by rw [List.getElem?_map, e2]; rfl)
  exact congrArg runS r
/-- the points that a point names in its procedure -/
def Pt.to : Pt → List Nat
  | .drw l => l.map fun m => m.2
  | .mv _ p => [p]
  | .exi => []
theorem points73 {pt : Pt} (hl : ∀ l, pt = .drw l → l.length ≤ 1000) : Pure L.T (k + 1) 73 [pt.d] (.tup (pt.to.map fun p => .int (p : Nat))) := by
  refine pure_of (fd := f73) rfl rfl fun z => ?_
  show evSs _ b73 [vl pt.d, none] z = _
  unfold b73
  cases pt with
  | drw l =>
    have e : evE ⟨callF L.T k, L.T.con, L.T.W⟩ (.comp (.nm 1) (.seq (.idx (.var 0) (.int (1)))) (.idx (.var 1) (.int (1)))) [vl (Pt.drw l).d, none] z = .ok (.lst (l.map fun m => .int (m.2 : Nat))) z :=
      comp_mapA (h := fun m : Rul × Nat => brD m.1 m.2) (g := fun m => .int (m.2 : Nat)) (evI_tup rfl) rfl (lim_le (hl l rfl)) fun m _ => ⟨_, rfl, rfl⟩
    refine run_rt ((evS_if (d := .bl true) (z' := z) rfl rfl).trans (run_rt (evS_ret ?_)))
    refine evE_bi1 e ?_
    show some (D.tup _) = _
    rw [Pt.to, List.map_map]
    rfl
  | mv s p =>
    cases s with
    | l c => rfl
    | v i => rfl
  | exi => rfl
theorem goL_cat {α : Type} {f : D → Sto → Res (List D)} {z : Sto} {h : α → D} {g : α → List D} : ∀ {l : List α}, (∀ a ∈ l, f (h a) z = .ok (g a) z) → goL f (l.map h) z = .ok (l.flatMap g) z
  | [], _ => rfl
  | a :: l, hh => by
    rw [List.map_cons]
    unfold goL
    rw [hh a List.mem_cons_self, Res.bind_ok, goL_cat fun b hb => hh b (List.mem_cons_of_mem _ hb), Res.bind_ok]
    rfl
theorem goL_filter {α : Type} {f : D → Sto → Res (List D)} {z : Sto} {h : α → D} {c : α → Bool} {l : List α} (hh : ∀ a ∈ l, f (h a) z = .ok (if c a then [h a] else []) z) : goL f (l.map h) z = .ok ((l.filter c).map h) z := by
  rw [goL_cat (g := fun a => if c a then [h a] else []) hh]
  congr 1
  clear hh
  induction l with
  | nil => rfl
  | cons a l ih =>
    rw [List.flatMap_cons, ih, List.filter_cons]
    cases c a <;> rfl
theorem placesFrom_len : ∀ (g : List (List Rul)) (a : Nat), (∀ rs ∈ g, sizeN rs ≤ 9) → (placesFrom a g).length ≤ 11 * g.length
  | [], a, _ => Nat.le_refl _
  | rs :: g, a, h => by
    have := placesFrom_len g (a + 1) fun x hx => h x (List.mem_cons_of_mem _ hx)
    have h2 := h rs List.mem_cons_self
    rw [placesFrom, List.length_append, List.length_map, List.length_range, List.length_cons]
    unfold lastN
    omega
theorem places_len {g : List (List Rul)} (h : GG g) : (places g).length ≤ 33 := by
  have := placesFrom_len g 0 h.sz
  have := h.ok.b
  unfold places
  omega
theorem zip1_flat {f : D → Sto → Res (List D)} {z : Sto} : ∀ (g : List (List Rul)) (a : Nat), (∀ (i : Nat) (rs : List Rul), rs ∈ g → f (.tup [.int (i : Nat), procD rs]) z = .ok (((List.range (lastN rs + 1)).map fun b => (i, b)).map placeD) z) → goL f (zip1 (g.map procD) a) z = .ok ((placesFrom a g).map placeD) z
  | [], a, _ => rfl
  | rs :: g, a, h => by
    rw [List.map_cons, zip1_cons]
    unfold goL
    rw [h a rs List.mem_cons_self, Res.bind_ok, zip1_flat g (a + 1) fun i rs hr => h i rs (List.mem_cons_of_mem _ hr), Res.bind_ok, placesFrom, List.map_append]
theorem places74 {g : List (List Rul)} (h : GG g) : PS g 74 (k + 1) [.loc 0] (.lst ((places g).map placeD)) := by
  unfold PS
  rw [callF_eq (fd := f74) rfl rfl]
  have it : evI ⟨callF L.T k, L.T.con, L.T.W⟩ (.enum (.attr (.var 0) 0 0)) [vl (.loc 0), none, none, none] (SG g) = .ok (.l (zip1 (g.map procD) 0)) (SG g) := evI_enumT (ds := g.map procD) (attr0 rfl)
  have e : evE ⟨callF L.T k, L.T.con, L.T.W⟩ (.comp2 (.tp (.cons (.nm 1) (.cons (.nm 2) (.nil)))) (.enum (.attr (.var 0) 0 0)) (.nm 3) (.rng1 (.bi .len (.cons (.idx (.var 2) (.int (1))) (.nil)))) (.ktt (.cons (.var 1) (.cons (.var 3) (.nil))))) [vl (.loc 0), none, none, none] (SG g) = .ok (.lst ((places g).map placeD)) (SG g) := by
    refine evE_comp2 rfl it (zip1_flat g 0 fun i rs hr => ?_) (lim_le (by rw [List.length_map]; have := places_len h; omega))
    refine turn2_eq (iv := .r 0 (lastN rs + 1)) (z1 := SG g) rfl (evI_rngN (n := lastN rs + 1) (evE_bi1 (d := .tup (procPts rs)) rfl (by rw [← procPts_len]; rfl)) (lim_le (by have := h.sz rs hr; unfold lastN; omega))) ?_
    rw [List.map_map]
    refine goR_map (g := fun b => placeD (i, b)) _ 0 fun j hj => turn_true rfl ?_
    show Res.ok (D.ktp [.i (i : Nat), .i (0 + (j : Nat))]) (SG g) = _
    rw [Int.zero_add]
    rfl
  have r : evSs ⟨callF L.T k, L.T.con, L.T.W⟩ b74 [vl (.loc 0), none, none, none] (SG g) = .ok (.rt (.lst ((places g).map placeD))) (SG g) := by
    unfold b74
    exact run_rt (evS_ret e)
  exact congrArg runS r
theorem plns_places (F : List (Nat × Nat)) : D.plns (F.map placeD) = true := by
  induction F with
  | nil => rfl
  | cons a F ih => rw [List.map_cons]; unfold D.plns; rw [ih]; rfl
theorem eqv_place (p q : Nat × Nat) : D.eqv (placeD p) (placeD q) = decide (p = q) := by
  unfold placeD D.eqv
  by_cases h : p = q
  · subst h
    rw [decide_eq_true rfl, decide_eq_true rfl]
  · rw [decide_eq_false h]
    apply decide_eq_false
    intro e
    apply h
    injection e with e1 e2
    injection e1 with e1
    injection e2 with e2
    injection e2 with e2
    exact Prod.ext (by omega) (by omega)
theorem inD_place (q : Nat × Nat) (F : List (Nat × Nat)) : inD (placeD q) (.lst (F.map placeD)) = some (decide (q ∈ F)) := by
  unfold inD
  show (if ((placeD q).pln && D.plns (F.map placeD) && decide (Nat.min (D.deps (F.map placeD)) 1 ≤ 64)) = true then _ else _) = _
  rw [plns_places, show (placeD q).pln = true from rfl, decide_eq_true (Nat.le_trans (Nat.min_le_right _ _) (by decide))]
  show some ((F.map placeD).any fun z => D.eqv z (placeD q)) = _
  congr 1
  induction F with
  | nil => rfl
  | cons a F ih =>
    rw [List.map_cons, List.any_cons, ih, eqv_place]
    by_cases h : q = a
    · subst h; simp
    · have : ¬ a = q := fun e => h e.symm
      simp [this, h]
theorem turn_cond {Z : Cxt} {t : Tg} {c e : C} {vs : List Nat} {σ σ' : Sg} {d x y : D} {b : Bool} {z : Sto} (h : asgT t d (wipeE σ vs) = some σ') (h2 : evE Z c σ' z = .ok y z) (hb : truD y = some b) (h3 : evE Z e σ' z = .ok x z) : turnI Z t c e vs σ d z = .ok (if b then [x] else []) z := by
  unfold turnI
  rw [h]
  simp only [h2, hb]
  cases b with
  | true => simp only [h3]; rfl
  | false => rfl
theorem tgt_to {a : Nat} {pt : Pt} : tgt a pt = (pt.to.map fun p => (a, p)) ++ (match pt with | .mv (.v i) _ => [(i, 0)] | _ => []) := by
  cases pt with
  | drw l => simp [tgt, Pt.to, Function.comp_def]
  | mv s p => cases s <;> rfl
  | exi => rfl
theorem pt_len {g : List (List Rul)} (h : GG g) {q : Nat × Nat} {pt : Pt} (hp : ptAt g q = some pt) : pt.to.length ≤ 10 ∧ ∀ l, pt = .drw l → l.length ≤ 1000 := by
  unfold ptAt at hp
  cases e : g[q.1]? with
  | none => rw [e] at hp; cases hp
  | some rs =>
    rw [e] at hp
    have hr : rs ∈ g := List.mem_of_getElem? e
    have hm : pt ∈ ptM rs := List.mem_of_getElem? hp
    have h3 := h.r3 rs hr
    unfold ptM at hm
    rcases List.mem_append.mp hm with hm | hm
    · rcases List.mem_cons.mp hm with hm | hm
      · subst hm
        have bl : (brP (lastN rs) 1 rs).length = rs.length := by rw [← brs_len (lastN rs) rs 1, brP_eq, List.length_map]
        refine ⟨by show ((brP (lastN rs) 1 rs).map fun m => m.2).length ≤ 10; rw [List.length_map, bl]; omega, fun l hl => ?_⟩
        cases hl
        rw [bl]; omega
      · obtain ⟨m, _, rfl⟩ := List.mem_map.mp hm
        exact ⟨by show 1 ≤ 10; decide, fun l hl => by cases hl⟩
    · rw [List.mem_singleton.mp hm]
      exact ⟨by show 0 ≤ 10; decide, fun l hl => by cases hl⟩
theorem named70 {g : List (List Rul)} (h : GG g) {q : Nat × Nat} (hq : okP g q) : PS g 70 (k + 6) [.loc 0, placeD q] (.lst ((named g q).map placeD)) := by
  obtain ⟨rs, pt, e, e2, e3⟩ := okP_pt hq
  have hl := pt_len h e3
  unfold PS
  rw [callF_eq (fd := f70) rfl rfl]
  obtain ⟨Z, hZ⟩ : ∃ Z : Cxt, Z = ⟨callF L.T (k + 5), L.T.con, L.T.W⟩ := ⟨_, rfl⟩
  have hcl : Z.cl = callF L.T (k + 5) := by rw [hZ]
  rw [← hZ]
  have p72 : PS g 72 (k + 5) [.loc 0, placeD q] pt.d := point72 (k := k) hq e3
  have p73 := (points73 (k := k + 4) (pt := pt) hl.2).ce (z := SG g)
  have p74 : PS g 74 (k + 5) [.loc 0] (.lst ((places g).map placeD)) := places74 (k := k + 4) h
  unfold PS at p72 p74
  rw [← hcl] at p72 p73 p74
  have s1 : evS Z (.set 2 (.meth 0 72 (.var 0) (.cons (.var 1) (.nil)))) [vl (.loc 0), vl (placeD q), none, none, none, none] (SG g) = .ok (.nx [vl (.loc 0), vl (placeD q), vl pt.d, none, none, none]) (SG g) := evS_set (evE_meth (ds := [placeD q]) rfl rfl rfl p72)
  have c1 : evE Z (.comp (.nm 4) (.seq (.call 73 (.cons (.var 2) (.nil)))) (.ktt (.cons (.idx (.var 1) (.int (0))) (.cons (.var 4) (.nil))))) [vl (.loc 0), vl (placeD q), vl pt.d, none, none, none] (SG g) = .ok (.lst ((pt.to.map fun p => (q.1, p)).map placeD)) (SG g) := by
    rw [List.map_map]
    exact comp_mapA (h := fun p : Nat => .int (p : Nat)) (g := fun p : Nat => placeD (q.1, p)) (evI_tup (evE_call1 rfl rfl p73)) rfl (lim_le (by omega)) fun p _ => ⟨_, rfl, rfl⟩
  have s3 : evS Z (.ife (.cmp .eq (.idx (.var 2) (.int (0))) (.str [99, 97, 108, 108])) (.cons (.app 3 (.ktt (.cons (.idx (.var 2) (.int (1))) (.cons (.int (0)) (.nil))))) (.nil)) (.nil)) [vl (.loc 0), vl (placeD q), vl pt.d, ow ((pt.to.map fun p => (q.1, p)).map placeD), none, none] (SG g) = .ok (.nx [vl (.loc 0), vl (placeD q), vl pt.d, ow ((tgt q.1 pt).map placeD), none, none]) (SG g) := by
    rw [tgt_to]
    cases pt with
    | drw l =>
      rw [List.append_nil]
      exact evS_if_f (d := .bl false) rfl rfl
    | mv s p =>
      cases s with
      | l c => exact evS_if_f (d := .bl false) rfl rfl
      | v i => rfl
    | exi => exact evS_if_f (d := .bl false) rfl rfl
  have c2 : evE Z (.compI (.nm 5) (.seq (.meth 0 74 (.var 0) (.nil))) (.cmp .inn (.var 5) (.bor 3)) (.var 5)) [vl (.loc 0), vl (placeD q), vl pt.d, ow ((tgt q.1 pt).map placeD), none, none] (SG g) = .ok (.lst ((named g q).map placeD)) (SG g) := by
    have en : named g q = (places g).filter fun p => decide (p ∈ tgt q.1 pt) := by unfold named; rw [e3]
    rw [en]
    refine evE_compI rfl (evI_lst (evE_meth (ds := []) rfl rfl rfl p74)) (goL_filter fun p hp => ?_) (lim_le (by rw [List.length_map]; have := List.length_filter_le (fun p => decide (p ∈ tgt q.1 pt)) (places g); have := places_len h; omega))
    exact turn_cond (b := decide (p ∈ tgt q.1 pt)) (y := .bl (decide (p ∈ tgt q.1 pt))) rfl (evE_cmp (x := placeD p) (y := .lst ((tgt q.1 pt).map placeD)) rfl rfl (inD_place p _)) rfl rfl
  have r : evSs Z b70 [vl (.loc 0), vl (placeD q), none, none, none, none] (SG g) = .ok (.rt (.lst ((named g q).map placeD))) (SG g) := by
    unfold b70
    exact run_nx s1 (run_nx (evS_own c1) (run_nx s3 (run_rt (evS_ret c2))))
  exact congrArg runS r
end LW

namespace EV
theorem forL_fold {α β : Type} {f : D → Sg → Sto → Res Fl} {h : α → D} {z : Sto} (Q : β → Sg → Prop) (step : β → α → β) : ∀ (l : List α), (∀ a ∈ l, ∀ b σ, Q b σ → ∃ σ', f (h a) σ z = .ok (.nx σ') z ∧ Q (step b a) σ') → ∀ b σ, Q b σ → ∃ σ', forL f (l.map h) σ z = .ok (.nx σ') z ∧ Q (l.foldl step b) σ'
  | [], _, b, σ, q => ⟨σ, rfl, q⟩
  | a :: l, H, b, σ, q => by
    obtain ⟨σ1, e1, q1⟩ := H a List.mem_cons_self b σ q
    obtain ⟨σ2, e2, q2⟩ := forL_fold Q step l (fun x hx => H x (List.mem_cons_of_mem _ hx)) _ σ1 q1
    refine ⟨σ2, ?_, q2⟩
    rw [List.map_cons]
    unfold forL
    rw [e1, Res.bind_ok]
    exact e2
theorem pigeon {α : Type} [DecidableEq α] : ∀ {l m : List α}, l.Nodup → (∀ a ∈ l, a ∈ m) → l.length ≤ m.length
  | [], m, _, _ => Nat.zero_le _
  | a :: l, m, hn, hs => by
    have hm := hs a List.mem_cons_self
    have hn2 := List.nodup_cons.mp hn
    have := pigeon (l := l) (m := m.erase a) hn2.2 fun b hb => by
      have hne : b ≠ a := fun e => hn2.1 (e ▸ hb)
      exact (List.mem_erase_of_ne hne).mpr (hs b (List.mem_cons_of_mem _ hb))
    rw [List.length_erase_of_mem hm] at this
    have hp : 0 < m.length := List.length_pos_of_mem hm
    rw [List.length_cons]
    omega
end EV
namespace LW
open EV
variable {k : Nat}
/-! ### the law's own search of variables -/
def iD (v : Nat) : D := .int (v : Nat)
theorem plns_ints (V : List Nat) : D.plns (V.map iD) = true := by
  induction V with
  | nil => rfl
  | cons a F ih => rw [List.map_cons]; unfold D.plns; rw [ih]; rfl
theorem inD_int (v : Nat) (V : List Nat) : inD (iD v) (.lst (V.map iD)) = some (decide (v ∈ V)) := by
  unfold inD
  show (if ((iD v).pln && D.plns (V.map iD) && decide (Nat.min (D.deps (V.map iD)) 0 ≤ 64)) = true then _ else _) = _
  rw [plns_ints, show (iD v).pln = true from rfl, decide_eq_true (Nat.le_trans (Nat.min_le_right _ _) (by decide))]
  show some ((V.map iD).any fun z => D.eqv z (iD v)) = _
  congr 1
  induction V with
  | nil => rfl
  | cons a F ih =>
    rw [List.map_cons, List.any_cons, ih]
    have e : D.eqv (iD a) (iD v) = decide (a = v) := by
      unfold iD D.eqv
      by_cases h : a = v
      · subst h; rw [decide_eq_true rfl]; exact beq_self_eq_true _
      · rw [decide_eq_false h, beq_eq_false_iff_ne]; omega
    rw [e]
    by_cases h : v = a
    · subst h; simp
    · have : ¬ a = v := fun e => h e.symm
      simp [this, h]
def addS (V : List Nat) : Sym → List Nat
  | .l _ => V
  | .v i => if i ∈ V then V else V ++ [i]
def addR (V : List Nat) (r : Rul) : List Nat := r.2.foldl addS V
structure VI (n : Nat) (P : Nat → Prop) (V : List Nat) : Prop where
  nd : V.Nodup
  lt : ∀ v ∈ V, v < n
  p : ∀ v ∈ V, P v
theorem addS_ok {n : Nat} {P : Nat → Prop} {V : List Nat} {s : Sym} (h : VI n P V) (o : okSym n s) (hp : ∀ i, s = .v i → P i) : VI n P (addS V s) ∧ V <+: addS V s ∧ ∀ i, s = .v i → i ∈ addS V s := by
  cases s with
  | l c => exact ⟨h, List.prefix_refl _, fun i e => by cases e⟩
  | v i =>
    unfold addS
    by_cases hi : i ∈ V
    · simp only [hi, if_true]
      exact ⟨h, List.prefix_refl _, fun j e => by cases e; exact hi⟩
    · simp only [hi, if_false]
      refine ⟨⟨?_, fun v hv => ?_, fun v hv => ?_⟩, List.prefix_append _ _, fun j e => by cases e; simp⟩
      · refine List.nodup_append.mpr ⟨h.nd, by simp, fun a ha b hb e => ?_⟩
        rw [List.mem_singleton.mp hb] at e
        exact hi (e ▸ ha)
      · rcases List.mem_append.mp hv with hv | hv
        · exact h.lt v hv
        · rw [List.mem_singleton.mp hv]; exact o
      · rcases List.mem_append.mp hv with hv | hv
        · exact h.p v hv
        · rw [List.mem_singleton.mp hv]; exact hp i rfl
theorem addSs_ok {n : Nat} {P : Nat → Prop} : ∀ (ss : List Sym) {V : List Nat}, VI n P V → (∀ s ∈ ss, okSym n s) → (∀ i, Sym.v i ∈ ss → P i) → VI n P (ss.foldl addS V) ∧ V <+: ss.foldl addS V ∧ ∀ i, Sym.v i ∈ ss → i ∈ ss.foldl addS V
  | [], V, h, _, _ => ⟨h, List.prefix_refl _, fun i e => nomatch e⟩
  | s :: ss, V, h, o, hp => by
    obtain ⟨a, b, c⟩ := addS_ok h (o s List.mem_cons_self) fun i e => hp i (e ▸ List.mem_cons_self)
    obtain ⟨d, e, f⟩ := addSs_ok ss a (fun x hx => o x (List.mem_cons_of_mem _ hx)) fun i hi => hp i (List.mem_cons_of_mem _ hi)
    refine ⟨d, b.trans e, fun i hi => ?_⟩
    rcases List.mem_cons.mp hi with hi | hi
    · exact e.subset (c i hi.symm)
    · exact f i hi
theorem addRs_ok {n : Nat} {P : Nat → Prop} : ∀ (rs : List Rul) {V : List Nat}, VI n P V → (∀ r ∈ rs, ∀ s ∈ r.2, okSym n s) → (∀ r ∈ rs, ∀ i, Sym.v i ∈ r.2 → P i) → VI n P (rs.foldl addR V) ∧ V <+: rs.foldl addR V ∧ ∀ r ∈ rs, ∀ i, Sym.v i ∈ r.2 → i ∈ rs.foldl addR V
  | [], V, h, _, _ => ⟨h, List.prefix_refl _, fun r e => nomatch e⟩
  | r :: rs, V, h, o, hp => by
    obtain ⟨a, b, c⟩ := addSs_ok r.2 h (o r List.mem_cons_self) (hp r List.mem_cons_self)
    obtain ⟨d, e, f⟩ := addRs_ok rs a (fun x hx => o x (List.mem_cons_of_mem _ hx)) fun x hx => hp x (List.mem_cons_of_mem _ hx)
    refine ⟨d, b.trans e, fun x hx i hi => ?_⟩
    rcases List.mem_cons.mp hx with hx | hx
    · subst hx; exact e.subset (c i hi)
    · exact f x hx i hi
def in67 : Ss := .cons (.ife (.and (.not (.isi .str (.var 5))) (.one (.cmp .nin (.var 5) (.bor 1)))) (.cons (.app 1 (.var 5)) (.nil)) (.nil)) .nil
def mid67 : Ss := .cons (.for_ (.nm 5) (.seq (.var 4)) in67) .nil
def out67 : Ss := .cons (.ife (.cmp .lt (.var 2) (.bi .len (.cons (.bor 1) (.nil)))) (.cons (.for_ (.tp (.cons (.nm 3) (.cons (.nm 4) (.nil)))) (.seq (.idx (.var 0) (.idx (.bor 1) (.var 2)))) mid67) .nil) (.nil)) (.nil)
theorem syms67 {Z : Cxt} {s0 s2 s3 s4 s5 : Option Slot} {z : Sto} {n : Nat} {P : Nat → Prop} {V : List Nat} (hV : VI n P V) (hn : n ≤ 6) {ss : List Sym} (o : ∀ s ∈ ss, okSym n s) (hp : ∀ i, Sym.v i ∈ ss → P i) :
    ∃ t5, forL (fun d σ z => match asgT (.nm 5) d σ with
      | some σ => evSs Z in67 σ z
      | none => .err) (ss.map Sym.d) [s0, ow (V.map iD), s2, s3, s4, s5] z = .ok (.nx [s0, ow ((ss.foldl addS V).map iD), s2, s3, s4, t5]) z := by
  obtain ⟨σ', e, t5, _, hσ⟩ := forL_fold (h := Sym.d) (z := z) (f := fun d σ z => match asgT (.nm 5) d σ with
      | some σ => evSs Z in67 σ z
      | none => .err) (fun V σ => ∃ t5, VI n P V ∧ σ = [s0, ow (V.map iD), s2, s3, s4, t5]) addS ss (fun s hs V σ ⟨t5, hV, hσ⟩ => by
    subst hσ
    have ok := addS_ok hV (o s hs) fun i e => hp i (e ▸ hs)
    have vl6 : V.length ≤ 6 := by
      have := pigeon (l := V) (m := List.range n) hV.nd fun v hv => List.mem_range.mpr (hV.lt v hv)
      rw [List.length_range] at this
      omega
    cases s with
    | l c => exact ⟨_, run_same (evS_if_f (d := .bl false) rfl rfl) run_end, _, ok.1, rfl⟩
    | v i =>
      have c : evE Z (.and (.not (.isi .str (.var 5))) (.one (.cmp .nin (.var 5) (.bor 1)))) [s0, ow (V.map iD), s2, s3, s4, vl (iD i)] z = .ok (.bl (!decide (i ∈ V))) z := by
        refine (evE_and_t (x := .bl true) (z1 := z) rfl rfl).trans ?_
        rw [evE_one]
        refine evE_cmp (x := iD i) (y := .lst (V.map iD)) rfl rfl ?_
        show (inD (iD i) (.lst (V.map iD))).map (!·) = _
        rw [inD_int]
        rfl
      by_cases hi : i ∈ V
      · rw [decide_eq_true hi] at c
        refine ⟨_, run_same (evS_if_f c rfl) run_end, vl (iD i), ok.1, ?_⟩
        unfold addS
        simp only [hi, if_true]
        rfl
      · rw [decide_eq_false hi] at c
        refine ⟨_, run_nx ((evS_if (k := true) c rfl).trans (run_nx (evS_app (z' := z) (ds := V.map iD) (d := iD i) rfl rfl (by rw [List.length_map]; unfold lim; omega)) run_end)) run_end, vl (iD i), ok.1, ?_⟩
        unfold addS
        simp only [hi, if_false, List.map_append]
        rfl) V [s0, ow (V.map iD), s2, s3, s4, s5] ⟨s5, hV, rfl⟩
  exact ⟨t5, e.trans (by rw [hσ])⟩
theorem rules67 {Z : Cxt} {s0 s2 s3 s4 s5 : Option Slot} {z : Sto} {n : Nat} {P : Nat → Prop} {V : List Nat} (hV : VI n P V) (hn : n ≤ 6) {rs : List Rul} (o : ∀ r ∈ rs, ∀ s ∈ r.2, okSym n s) (hp : ∀ r ∈ rs, ∀ i, Sym.v i ∈ r.2 → P i) :
    ∃ t3 t4 t5, forL (fun d σ z => match asgT (.tp (.cons (.nm 3) (.cons (.nm 4) (.nil)))) d σ with
      | some σ => evSs Z mid67 σ z
      | none => .err) (rs.map ruleD) [s0, ow (V.map iD), s2, s3, s4, s5] z = .ok (.nx [s0, ow ((rs.foldl addR V).map iD), s2, t3, t4, t5]) z := by
  obtain ⟨σ', e, t3, t4, t5, _, hσ⟩ := forL_fold (h := ruleD) (z := z) (f := fun d σ z => match asgT (.tp (.cons (.nm 3) (.cons (.nm 4) (.nil)))) d σ with
      | some σ => evSs Z mid67 σ z
      | none => .err) (fun V σ => ∃ t3 t4 t5, VI n P V ∧ σ = [s0, ow (V.map iD), s2, t3, t4, t5]) addR rs (fun r hr V σ ⟨t3, t4, t5, hV, hσ⟩ => by
    subst hσ
    obtain ⟨u5, e⟩ := syms67 (Z := Z) (s0 := s0) (s2 := s2) (s3 := vl (R r.1)) (s4 := vl (.tup (r.2.map Sym.d))) (s5 := t5) (z := z) hV hn (o r hr) (hp r hr)
    exact ⟨_, run_nx (run_for (iv := .l (r.2.map Sym.d)) (evI_tup (ds := r.2.map Sym.d) rfl) e) run_end, _, _, u5, (addSs_ok r.2 hV (o r hr) (hp r hr)).1, rfl⟩) V [s0, ow (V.map iD), s2, s3, s4, s5] ⟨s3, s4, s5, hV, rfl⟩
  exact ⟨t3, t4, t5, e.trans (by rw [hσ])⟩
/-- the symbols of the rules of a variable -/
def uses (g : List (List Rul)) (v i : Nat) : Prop := ∃ rs, g[v]? = some rs ∧ ∃ r ∈ rs, Sym.v i ∈ r.2
def stepK (g : List (List Rul)) (V : List Nat) (j : Nat) : List Nat := match V[j]? with
  | some v => (g.getD v []).foldl addR V
  | none => V
def Vk (g : List (List Rul)) : Nat → List Nat
  | 0 => [0]
  | i + 1 => stepK g (Vk g i) i
theorem getD_some {g : List (List Rul)} {v : Nat} {rs : List Rul} (e : g[v]? = some rs) : g.getD v [] = rs := by
  rw [List.getD_eq_getElem?_getD, e]; rfl
theorem Vk_ok {g : List (List Rul)} (h : GG g) {P : Nat → Prop} (h0 : P 0) (hP : ∀ v i, P v → uses g v i → P i) : ∀ i : Nat, VI g.length P (Vk g i) ∧ 0 ∈ Vk g i ∧ ∀ j < i, ∀ v, (Vk g i)[j]? = some v → ∀ w, uses g v w → w ∈ Vk g i
  | 0 => by
    have := h.ok.a
    refine ⟨⟨by unfold Vk; simp, fun v hv => ?_, fun v hv => ?_⟩, by unfold Vk; simp, fun j hj => absurd hj (Nat.not_lt_zero _)⟩
    · rw [List.mem_singleton.mp hv]; omega
    · rw [List.mem_singleton.mp hv]; exact h0
  | i + 1 => by
    obtain ⟨a, b, c⟩ := Vk_ok h h0 hP i
    unfold Vk stepK
    cases e : (Vk g i)[i]? with
    | none =>
      refine ⟨a, b, fun j hj v hv w hw => ?_⟩
      have : j < i := by
        rcases Nat.lt_succ_iff_lt_or_eq.mp hj with q | q
        · exact q
        · subst q; rw [e] at hv; cases hv
      exact c j this v hv w hw
    | some v =>
      have hm : v ∈ Vk g i := List.mem_of_getElem? e
      have hv := a.lt v hm
      obtain ⟨rs, hrs⟩ : ∃ rs, g[v]? = some rs := ⟨g[v], List.getElem?_eq_getElem hv⟩
      have hr : rs ∈ g := List.mem_of_getElem? hrs
      rw [show (match some v with
        | some v => (g.getD v []).foldl addR (Vk g i)
        | none => Vk g i) = rs.foldl addR (Vk g i) by show (g.getD v []).foldl addR (Vk g i) = _; rw [getD_some hrs]]
      obtain ⟨d, p, q⟩ := addRs_ok (n := g.length) (P := P) rs a (fun r hr' => ((h.ok.r rs hr).r r hr').s) fun r hr' w hw => hP v w (a.p v hm) ⟨rs, hrs, r, hr', hw⟩
      refine ⟨d, p.subset b, fun j hj x hx w hw => ?_⟩
      have old : (Vk g i)[j]? = some x := by
        have hl : j < (Vk g i).length := by
          have := (List.getElem?_eq_some_iff.mp e).1
          omega
        obtain ⟨t, ht⟩ := p
        rw [← ht, List.getElem?_append_left hl] at hx
        exact hx
      rcases Nat.lt_succ_iff_lt_or_eq.mp hj with q2 | q2
      · exact p.subset (c j q2 x old w hw)
      · subst q2
        rw [e] at old
        cases old
        obtain ⟨rs', e2, r, hr', hw⟩ := hw
        rw [hrs] at e2
        cases e2
        exact q r hr' w hw
theorem vars67 {g : List (List Rul)} (h : GG g) (P : Nat → Prop) (h0 : P 0) (hP : ∀ v i, P v → uses g v i → P i) :
    ∃ V : List Nat, VI g.length P V ∧ 0 ∈ V ∧ (∀ v ∈ V, ∀ i, uses g v i → i ∈ V) ∧ ∀ k, Pure L.T (k + 1) 67 [gramD g] (.lst ((srtI (V.map fun v => ((v : Nat) : Int))).map D.int)) := by
  have hl1 := h.ok.a
  have hl3 := h.ok.b
  obtain ⟨a, b, c⟩ := Vk_ok h h0 hP g.length
  have le : ∀ i, (Vk g i).length ≤ g.length := fun i => by
    have a := (Vk_ok h h0 hP i).1
    have := pigeon (l := Vk g i) (m := List.range g.length) a.nd fun v hv => List.mem_range.mpr (a.lt v hv)
    rw [List.length_range] at this
    exact this
  refine ⟨Vk g g.length, a, b, fun v hv i hi => ?_, fun k => pure_of (fd := f67) rfl rfl fun z => ?_⟩
  · obtain ⟨j, hj, e⟩ := List.getElem_of_mem hv
    exact c j (by have := le g.length; omega) v (by rw [List.getElem?_eq_getElem hj, e]) i hi
  obtain ⟨Z, hZ⟩ : ∃ Z : Cxt, Z = ⟨callF L.T k, L.T.con, L.T.W⟩ := ⟨_, rfl⟩
  rw [← hZ]
  obtain ⟨σ', z', e, hz, s2, s3, s4, s5, hσ⟩ := forR_inv (f := fun d σ z => match asgT (.nm 2) d σ with
      | some σ => evSs Z out67 σ z
      | none => .err) (lo := 0) (n := g.length) (fun i σ z' => z' = z ∧ ∃ s2 s3 s4 s5, σ = [vl (gramD g), ow ((Vk g i).map iD), s2, s3, s4, s5]) (fun i σ z' hi ⟨hz, s2, s3, s4, s5, hσ⟩ => by
    subst hz hσ
    rw [show (0 : Int) + (i : Nat) = (i : Nat) by omega]
    have ai := (Vk_ok h h0 hP i).1
    have cnd : evE Z (.cmp .lt (.var 2) (.bi .len (.cons (.bor 1) (.nil)))) [vl (gramD g), ow ((Vk g i).map iD), vl (.int (i : Nat)), s3, s4, s5] z' = .ok (.bl (decide (i < (Vk g i).length))) z' := evE_cmp (x := .int (i : Nat)) (y := .int ((Vk g i).length : Nat)) rfl (evE_bi1 (d := .lst ((Vk g i).map iD)) rfl (by show some (D.int (((Vk g i).map iD).length : Nat)) = _; rw [List.length_map])) (cmp_lt_nat _ _)
    cases ev : (Vk g i)[i]? with
    | none =>
      have : ¬ i < (Vk g i).length := by
        intro q
        rw [List.getElem?_eq_getElem q] at ev
        cases ev
      rw [decide_eq_false this] at cnd
      refine ⟨_, z', run_same (evS_if_f cnd rfl) run_end, rfl, vl (.int (i : Nat)), s3, s4, s5, ?_⟩
      show _ = [vl (gramD g), ow ((stepK g (Vk g i) i).map iD), _, _, _, _]
      unfold stepK
      rw [ev]
      rfl
    | some v =>
      have hl := (List.getElem?_eq_some_iff.mp ev).1
      have hm : v ∈ Vk g i := List.mem_of_getElem? ev
      have hv := ai.lt v hm
      obtain ⟨rs, hrs⟩ : ∃ rs, g[v]? = some rs := ⟨g[v], List.getElem?_eq_getElem hv⟩
      have hr : rs ∈ g := List.mem_of_getElem? hrs
      rw [decide_eq_true hl] at cnd
      obtain ⟨t3, t4, t5, e⟩ := rules67 (Z := Z) (s0 := vl (gramD g)) (s2 := vl (.int (i : Nat))) (s3 := s3) (s4 := s4) (s5 := s5) (z := z') ai (by omega) (rs := rs) (fun r hr' => ((h.ok.r rs hr).r r hr').s) (fun r hr' w hw => hP v w (ai.p v hm) ⟨rs, hrs, r, hr', hw⟩)
      refine ⟨_, z', run_nx ((evS_if (k := true) cnd rfl).trans (run_nx (run_for (iv := .l (rs.map ruleD)) (evI_tup (ds := rs.map ruleD) ?_) e) run_end)) run_end, rfl, vl (.int (i : Nat)), t3, t4, t5, ?_⟩
      · refine evE_idx (x := gramD g) (y := iD v) rfl (evE_idx (x := .lst ((Vk g i).map iD)) (y := .int (i : Nat)) rfl rfl (idxD_lst (by rw [List.getElem?_map, ev]; rfl))) (idxD_tupN ?_)
        rw [List.getElem?_map, hrs]
        rfl
      · show _ = [vl (gramD g), ow ((stepK g (Vk g i) i).map iD), _, _, _, _]
        unfold stepK
        rw [ev]
        show _ = [vl (gramD g), ow (((g.getD v []).foldl addR (Vk g i)).map iD), _, _, _, _]
        rw [getD_some hrs]) [vl (gramD g), ow [.int 0], none, none, none, none] z ⟨rfl, none, none, none, none, rfl⟩
  subst hz hσ
  show evSs Z b67 [vl (gramD g), none, none, none, none, none] z' = _
  unfold b67
  refine run_nx (evS_own (ds := [.int 0]) rfl) (run_nx (run_for (iv := .r 0 g.length) (evI_rngN (n := g.length) (evE_bi1 (d := gramD g) rfl bi_len) (lim_le (by omega))) e) (run_rt (evS_ret ?_)))
  unfold evE
  rw [show evE Z (.bor 1) [vl (gramD g), ow ((Vk g g.length).map iD), s2, s3, s4, s5] z' = .ok (.lst ((Vk g g.length).map iD)) z' from rfl, Res.bind_ok]
  unfold srtD
  have ei : intsOf ((Vk g g.length).map iD) = some ((Vk g g.length).map fun v => ((v : Nat) : Int)) := intsOf_map2 (g := fun v : Nat => ((v : Nat) : Int)) _
  simp only [ei]
  rfl
end LW

namespace LW
open EV
variable {k : Nat}
theorem mem_placesFrom : ∀ {g : List (List Rul)} {a : Nat} {q : Nat × Nat}, q ∈ placesFrom a g ↔ a ≤ q.1 ∧ ∃ rs, g[q.1 - a]? = some rs ∧ q.2 < lastN rs + 1
  | [], a, q => ⟨fun h => (nomatch h), fun ⟨_, rs, e, _⟩ => by simp at e⟩
  | rs :: g, a, q => by
    rw [placesFrom, List.mem_append, mem_placesFrom (g := g)]
    constructor
    · rintro (h | ⟨h1, rs', e, l⟩)
      · obtain ⟨b, hb, rfl⟩ := List.mem_map.mp h
        exact ⟨Nat.le_refl _, rs, by simp, List.mem_range.mp hb⟩
      · refine ⟨by omega, rs', ?_, l⟩
        rw [show q.1 - a = (q.1 - (a + 1)) + 1 by omega, List.getElem?_cons_succ]
        exact e
    · rintro ⟨h1, rs', e, l⟩
      by_cases h : q.1 = a
      · left
        rw [h, Nat.sub_self, List.getElem?_cons_zero] at e
        cases e
        exact List.mem_map.mpr ⟨q.2, List.mem_range.mpr l, by rw [← h]⟩
      · right
        rw [show q.1 - a = (q.1 - (a + 1)) + 1 by omega, List.getElem?_cons_succ] at e
        exact ⟨by omega, rs', e, l⟩
theorem mem_places {g : List (List Rul)} {q : Nat × Nat} : q ∈ places g ↔ okP g q := by
  unfold places
  rw [mem_placesFrom, Nat.sub_zero]
  exact ⟨fun h => h.2, fun h => ⟨Nat.zero_le _, h⟩⟩
theorem places_nd : ∀ (g : List (List Rul)) (a : Nat), (placesFrom a g).Nodup
  | [], a => List.nodup_nil
  | rs :: g, a => by
    rw [placesFrom]
    refine List.nodup_append.mpr ⟨?_, places_nd g (a + 1), fun p hp q hq e => ?_⟩
    · have : List.Pairwise (fun x y => x ≠ y) (List.range (lastN rs + 1)) := List.nodup_range
      exact List.pairwise_map.mpr (this.imp fun hne e => hne (by injection e))
    · obtain ⟨b, _, rfl⟩ := List.mem_map.mp hp
      have := (mem_placesFrom.mp hq).1
      rw [← e] at this
      exact absurd this (by show ¬ a + 1 ≤ a; omega)
theorem named_nd {g : List (List Rul)} {q : Nat × Nat} : (named g q).Nodup := by
  unfold named
  split
  · exact List.Pairwise.filter _ (places_nd g 0)
  · exact List.nodup_nil
theorem named_sub {g : List (List Rul)} {q t : Nat × Nat} (h : t ∈ named g q) : t ∈ places g := by
  unfold named at h
  split at h
  · exact (List.mem_filter.mp h).1
  · exact nomatch h
def news (g : List (List Rul)) (F : List (Nat × Nat)) (q : Nat × Nat) : List (Nat × Nat) := (named g q).filter fun p => !decide (p ∈ F)
structure FI (g : List (List Rul)) (P : Nat × Nat → Prop) (F : List (Nat × Nat)) (n : Nat) : Prop where
  nd : F.Nodup
  sub : ∀ q ∈ F, q ∈ places g
  p : ∀ q ∈ F, P q
  le : n ≤ F.length
  cl : ∀ j < n, ∀ q, F[j]? = some q → ∀ t ∈ named g q, t ∈ F
  z : (0, 0) ∈ F
theorem FI.step {g : List (List Rul)} {P : Nat × Nat → Prop} (hP : ∀ q t, P q → t ∈ named g q → P t) {F : List (Nat × Nat)} {n : Nat} (h : FI g P F n) {q : Nat × Nat} (e : F[n]? = some q) : FI g P (F ++ news g F q) (n + 1) := by
  have hn := (List.getElem?_eq_some_iff.mp e).1
  have hq : q ∈ F := List.mem_of_getElem? e
  have mem : ∀ t, t ∈ news g F q → t ∈ named g q ∧ t ∉ F := fun t ht => by
    obtain ⟨a, b⟩ := List.mem_filter.mp ht
    exact ⟨a, by simpa using b⟩
  refine ⟨List.nodup_append.mpr ⟨h.nd, List.Pairwise.filter _ named_nd, fun a ha b hb e => (mem b hb).2 (e ▸ ha)⟩, fun t ht => ?_, fun t ht => ?_, by rw [List.length_append]; omega, fun j hj x hx t ht => ?_, List.mem_append_left _ h.z⟩
  · rcases List.mem_append.mp ht with ht | ht
    · exact h.sub t ht
    · exact named_sub (mem t ht).1
  · rcases List.mem_append.mp ht with ht | ht
    · exact h.p t ht
    · exact hP q t (h.p q hq) (mem t ht).1
  · rw [List.getElem?_append_left (by omega)] at hx
    rcases Nat.lt_succ_iff_lt_or_eq.mp hj with hj | hj
    · exact List.mem_append_left _ (h.cl j hj x hx t ht)
    · subst hj
      rw [e] at hx
      cases hx
      by_cases ht2 : t ∈ F
      · exact List.mem_append_left _ ht2
      · exact List.mem_append_right _ (List.mem_filter.mpr ⟨ht, by simpa using ht2⟩)
def cnd66 : C := .cmp .lt (.var 3) (.bi .len (.cons (.bor 2) (.nil)))
def bod66 : Ss := .cons (.ext 2 (.compI (.nm 4) (.seq (.meth 0 70 (.var 0) (.cons (.idx (.bor 2) (.var 3)) (.nil)))) (.cmp .nin (.var 4) (.bor 2)) (.var 4))) (.cons (.set 3 (.bin .add (.var 3) (.int (1)))) (.nil))
theorem evS_ext {Z : Cxt} {i : Nat} {c : C} {σ : Sg} {z z' : Sto} {ds es : List D} (hs : σ[i]? = some (some (.own ds))) (h : evE Z c σ z = .ok (.lst es) z') (hl : ds.length + es.length ≤ lim) : evS Z (.ext i c) σ z = .ok (.nx (σ.set i (some (.own (ds ++ es))))) z' := by
  unfold evS
  rw [hs]
  simp only [bS]
  rw [h]
  simp [hl]
theorem while66 {g : List (List Rul)} (hg : GG g) {P : Nat × Nat → Prop} (hP : ∀ q t, P q → t ∈ named g q → P t) {Z : Cxt} (hcl : Z.cl = callF L.T (k + 6)) {s1 : Option Slot} : ∀ (m n at_ : Nat) (F : List (Nat × Nat)), FI g P F at_ → 34 ≤ m + at_ → m + 1 ≤ n →
    ∃ F', FI g P F' F'.length ∧ whlF (fun σ z => (evE Z cnd66 σ z).bind fun x z => lift (truD x) z) (fun σ z => evSs Z bod66 σ z) n [vl (.loc 0), s1, ow (F.map placeD), vl (.int (at_ : Nat)), none] (SG g) = .ok (.nx [vl (.loc 0), s1, ow (F'.map placeD), vl (.int (F'.length : Nat)), none]) (SG g) := by
  intro m
  induction m with
  | zero =>
    intro n a F h hm hn
    have l1 := pigeon h.nd h.sub
    have l2 := places_len hg
    have := h.le
    omega
  | succ m ih =>
    intro n a F h hm hn
    obtain ⟨n, rfl⟩ : ∃ n', n = n' + 1 := ⟨n - 1, by omega⟩
    have l1 := pigeon h.nd h.sub
    have l2 := places_len hg
    have hle := h.le
    have cn : evE Z cnd66 [vl (.loc 0), s1, ow (F.map placeD), vl (.int (a : Nat)), none] (SG g) = .ok (.bl (decide (a < F.length))) (SG g) := evE_cmp (x := .int (a : Nat)) (y := .int (F.length : Nat)) rfl (evE_bi1 (d := .lst (F.map placeD)) rfl (by show some (D.int ((F.map placeD).length : Nat)) = _; rw [List.length_map])) (cmp_lt_nat _ _)
    by_cases ha : a < F.length
    · rw [decide_eq_true ha] at cn
      have e : F[a]? = some F[a] := List.getElem?_eq_getElem ha
      obtain ⟨q, hq⟩ : ∃ q, q = F[a] := ⟨_, rfl⟩
      rw [← hq] at e
      have qm : q ∈ F := List.mem_of_getElem? e
      have p70 : callF L.T (k + 6) 70 [.loc 0, placeD q] (SG g) = .ok (.lst ((named g q).map placeD)) (SG g) := named70 (k := k) hg (mem_places.mp (h.sub q qm))
      rw [← hcl] at p70
      have nl : (named g q).length ≤ 33 := Nat.le_trans (pigeon named_nd fun t ht => named_sub ht) l2
      have nl2 : (news g F q).length ≤ 33 := Nat.le_trans (List.length_filter_le _ _) nl
      have ml : evE Z (.meth 0 70 (.var 0) (.cons (.idx (.bor 2) (.var 3)) (.nil))) [vl (.loc 0), s1, ow (F.map placeD), vl (.int (a : Nat)), none] (SG g) = .ok (.lst ((named g q).map placeD)) (SG g) := by
        refine evE_meth (ds := [placeD q]) rfl ?_ rfl p70
        unfold evEs
        rw [evE_idx (x := .lst (F.map placeD)) (y := .int (a : Nat)) (d := placeD q) rfl rfl (idxD_lst (by rw [List.getElem?_map, e]; rfl))]
        rfl
      have cl : evE Z (.compI (.nm 4) (.seq (.meth 0 70 (.var 0) (.cons (.idx (.bor 2) (.var 3)) (.nil)))) (.cmp .nin (.var 4) (.bor 2)) (.var 4)) [vl (.loc 0), s1, ow (F.map placeD), vl (.int (a : Nat)), none] (SG g) = .ok (.lst ((news g F q).map placeD)) (SG g) := by
        refine evE_compI rfl (evI_lst ml) (goL_filter fun p hp => ?_) (lim_le (by rw [List.length_map]; exact Nat.le_trans nl2 (by decide)))
        refine turn_cond (b := !decide (p ∈ F)) (y := .bl (!decide (p ∈ F))) rfl (evE_cmp (x := placeD p) (y := .lst (F.map placeD)) rfl rfl ?_) rfl rfl
        show (inD (placeD p) (.lst (F.map placeD))).map (!·) = _
        rw [inD_place]
        rfl
      have bd : evSs Z bod66 [vl (.loc 0), s1, ow (F.map placeD), vl (.int (a : Nat)), none] (SG g) = .ok (.nx [vl (.loc 0), s1, ow ((F ++ news g F q).map placeD), vl (.int ((a + 1 : Nat) : Int)), none]) (SG g) := by
        unfold bod66
        refine run_nx (evS_ext (ds := F.map placeD) rfl cl (lim_le (by rw [List.length_map, List.length_map]; omega))) (run_nx (evS_set (d := .int ((a + 1 : Nat) : Int)) (z' := SG g) (evE_bin (x := .int (a : Nat)) (y := .int 1) rfl rfl rfl)) ?_)
        rw [List.map_append]
        rfl
      obtain ⟨F', fi, r⟩ := ih n (a + 1) (F ++ news g F q) (h.step hP e) (by omega) (by omega)
      refine ⟨F', fi, ?_⟩
      unfold whlF bS
      simp only [cn, Res.bind_ok, truD, lift_some]
      rw [bd, Res.bind_ok]
      exact r
    · rw [decide_eq_false ha] at cn
      have : a = F.length := by omega
      subst this
      refine ⟨F, h, ?_⟩
      unfold whlF bS
      simp only [cn, Res.bind_ok, truD, lift_some]
theorem pairs_places (F : List (Nat × Nat)) : pairsOf (F.map placeD) = some (F.map fun q => (((q.1 : Nat) : Int), ((q.2 : Nat) : Int))) := by
  induction F with
  | nil => rfl
  | cons a F ih =>
    rw [List.map_cons]
    show (pairsOf (F.map placeD)).map _ = _
    rw [ih]
    rfl
theorem reached66 {g : List (List Rul)} (hg : GG g) (P : Nat × Nat → Prop) (h0 : P (0, 0)) (hP : ∀ q t, P q → t ∈ named g q → P t) :
    ∃ F : List (Nat × Nat), FI g P F F.length ∧ PS g 66 (k + 7) [.loc 0, placeD (0, 0)] (.lst ((srtP (F.map fun q => (((q.1 : Nat) : Int), ((q.2 : Nat) : Int)))).map fun p => .ktp [.i p.1, .i p.2])) := by
  have ok0 : okP g (0, 0) := by
    have := hg.ok.a
    exact ⟨g[0], List.getElem?_eq_getElem (by omega), by show 0 < _; omega⟩
  obtain ⟨Z, hZ⟩ : ∃ Z : Cxt, Z = ⟨callF L.T (k + 6), L.T.con, L.T.W⟩ := ⟨_, rfl⟩
  have hcl : Z.cl = callF L.T (k + 6) := by rw [hZ]
  have p69 : callF L.T (k + 6) 69 [.loc 0, placeD (0, 0)] (SG g) = .ok .non (SG g) := check69 (k := k + 2) ok0
  rw [← hcl] at p69
  have st : FI g P [(0, 0)] 0 := ⟨by simp, fun q hq => by rw [List.mem_singleton.mp hq]; exact mem_places.mpr ok0, fun q hq => by rw [List.mem_singleton.mp hq]; exact h0, Nat.zero_le _, fun j hj => absurd hj (Nat.not_lt_zero _), by simp⟩
  obtain ⟨F, fi, r⟩ := while66 (k := k) hg hP hcl (s1 := vl (placeD (0, 0))) 34 Z.W 0 [(0, 0)] st (by omega) (by rw [hZ]; show 35 ≤ L.T.W; decide)
  refine ⟨F, fi, ?_⟩
  unfold PS
  rw [callF_eq (fd := f66) rfl rfl, ← hZ]
  have e : evSs Z b66 [vl (.loc 0), vl (placeD (0, 0)), none, none, none] (SG g) = .ok (.rt (.lst ((srtP (F.map fun q => (((q.1 : Nat) : Int), ((q.2 : Nat) : Int)))).map fun p => .ktp [.i p.1, .i p.2]))) (SG g) := by
    unfold b66
    refine run_nx (evS_ex (d := .non) (evE_meth (ds := [placeD (0, 0)]) rfl rfl rfl p69)) (run_nx (evS_own (ds := [placeD (0, 0)]) rfl) (run_nx (evS_set (d := .int 0) rfl) (run_nx (σ' := [vl (.loc 0), vl (placeD (0, 0)), ow (F.map placeD), vl (.int (F.length : Nat)), none]) (z' := SG g) ?_ (run_rt (evS_ret ?_)))))
    · unfold evS
      exact r
    · unfold evE
      rw [show evE Z (.bor 2) [vl (.loc 0), vl (placeD (0, 0)), ow (F.map placeD), vl (.int (F.length : Nat)), none] (SG g) = .ok (.lst (F.map placeD)) (SG g) from rfl, Res.bind_ok]
      unfold srtD
      have hne : intsOf (F.map placeD) = none := by
        cases F with
        | nil => exact absurd fi.z (by simp)
        | cons a F => rfl
      simp only [hne, pairs_places]
      rfl
  exact congrArg runS e
end LW

namespace LW
open EV
theorem mvA_app (last : Nat) : ∀ (xs ys : List Rul) (a : Nat), mvA last a (xs ++ ys) = mvA last a xs ++ mvA last (a + sizeN xs) ys
  | [], ys, a => rfl
  | r :: xs, ys, a => by
    have e : a + r.2.length + sizeN xs = a + sizeN (r :: xs) := by rw [sizeN_cons]; omega
    rw [List.cons_append, mvA, mvA, mvA_app last xs ys, e, List.append_assoc]
theorem brP_app (last : Nat) : ∀ (xs ys : List Rul) (a : Nat), brP last a (xs ++ ys) = brP last a xs ++ brP last (a + sizeN xs) ys
  | [], ys, a => rfl
  | r :: xs, ys, a => by
    have e : a + r.2.length + sizeN xs = a + sizeN (r :: xs) := by rw [sizeN_cons]; omega
    rw [List.cons_append, brP, brP, brP_app last xs ys, e]; rfl
theorem mvR_len (last : Nat) (ss : List Sym) (a : Nat) : (mvR last a ss).length = ss.length := by
  rw [← ptsR_len last ss a, mvR_eq, List.length_map]
theorem mvA_len (last : Nat) (rs : List Rul) (a : Nat) : (mvA last a rs).length = sizeN rs := by
  rw [← ptsA_len last rs a, mvA_eq, List.length_map]
theorem mvR_get (last : Nat) : ∀ (ss : List Sym) (a t : Nat) (s : Sym), ss[t]? = some s → (mvR last a ss)[t]? = some (s, if t + 1 = ss.length then last else a + t + 1)
  | [], a, t, s, h => by simp at h
  | x :: ss, a, 0, s, h => by
    rw [List.getElem?_cons_zero] at h
    cases h
    rw [mvR, List.getElem?_cons_zero]
    cases ss with
    | nil => rfl
    | cons y ss =>
      have : ¬ (0 + 1 = (x :: y :: ss).length) := by simp
      rw [if_neg this]
      rfl
  | x :: ss, a, t + 1, s, h => by
    rw [List.getElem?_cons_succ] at h
    rw [mvR, List.getElem?_cons_succ, mvR_get last ss (a + 1) t s h, List.length_cons]
    by_cases e : t + 1 = ss.length
    · rw [if_pos e, if_pos (by omega)]
    · rw [if_neg e, if_neg (by omega), show a + 1 + t + 1 = a + (t + 1) + 1 by omega]
theorem mvR_mem {last : Nat} : ∀ {ss : List Sym} {a : Nat} {m : Sym × Nat}, m ∈ mvR last a ss → m.1 ∈ ss
  | [], a, m, h => nomatch h
  | s :: ss, a, m, h => by
    rw [mvR] at h
    rcases List.mem_cons.mp h with h | h
    · rw [h]; exact List.mem_cons_self
    · exact List.mem_cons_of_mem _ (mvR_mem h)
theorem mvA_mem {last : Nat} : ∀ {rs : List Rul} {a : Nat} {m : Sym × Nat}, m ∈ mvA last a rs → ∃ r ∈ rs, m.1 ∈ r.2
  | [], a, m, h => nomatch h
  | r :: rs, a, m, h => by
    rw [mvA] at h
    rcases List.mem_append.mp h with h | h
    · exact ⟨r, List.mem_cons_self, mvR_mem h⟩
    · obtain ⟨r', hr, hm⟩ := mvA_mem h
      exact ⟨r', List.mem_cons_of_mem _ hr, hm⟩
theorem named_iff {g : List (List Rul)} {q t : Nat × Nat} : t ∈ named g q ↔ t ∈ places g ∧ ∃ pt, ptAt g q = some pt ∧ t ∈ tgt q.1 pt := by
  unfold named
  cases e : ptAt g q with
  | none => exact ⟨fun h => (nomatch h), fun ⟨_, pt, e, _⟩ => by cases e⟩
  | some pt =>
    show (t ∈ (places g).filter fun p => decide (p ∈ tgt q.1 pt)) ↔ _
    rw [List.mem_filter]
    constructor
    · rintro ⟨a, b⟩
      exact ⟨a, pt, rfl, by simpa using b⟩
    · rintro ⟨a, pt', e', b⟩
      cases e'
      exact ⟨a, by simpa using b⟩
inductive RV (g : List (List Rul)) : Nat → Prop where
  | z : RV g 0
  | s {v i : Nat} : RV g v → uses g v i → RV g i
inductive RP (g : List (List Rul)) : Nat × Nat → Prop where
  | z : RP g (0, 0)
  | s {q t : Nat × Nat} : RP g q → t ∈ named g q → RP g t
theorem rp_rv {g : List (List Rul)} {q : Nat × Nat} (h : RP g q) : RV g q.1 := by
  induction h with
  | z => exact .z
  | @s q t _ ht ih =>
    obtain ⟨_, pt, e, hm⟩ := named_iff.mp ht
    cases pt with
    | drw l =>
      obtain ⟨m, _, rfl⟩ := List.mem_map.mp hm
      exact ih
    | exi => exact nomatch hm
    | mv s p =>
      cases s with
      | l c =>
        rw [show t = (q.1, p) from List.mem_singleton.mp hm]
        exact ih
      | v i =>
        rcases List.mem_cons.mp hm with hm | hm
        · rw [hm]; exact ih
        · rw [List.mem_singleton.mp hm]
          refine .s ih ?_
          unfold ptAt at e
          cases e2 : g[q.1]? with
          | none => rw [e2] at e; cases e
          | some rs =>
            rw [e2] at e
            have hm : Pt.mv (.v i) p ∈ ptM rs := List.mem_of_getElem? e
            unfold ptM at hm
            have hm2 : Pt.mv (.v i) p ∈ (mvA (lastN rs) 1 rs).map fun m => Pt.mv m.1 m.2 := by
              rcases List.mem_append.mp hm with hm | hm
              · rcases List.mem_cons.mp hm with hm | hm
                · cases hm
                · exact hm
              · cases List.mem_singleton.mp hm
            obtain ⟨m, hm3, em⟩ := List.mem_map.mp hm2
            injection em with h1 h2
            obtain ⟨r, hr, hs⟩ := mvA_mem hm3
            exact ⟨rs, e2, r, hr, h1 ▸ hs⟩
theorem rv_rp {g : List (List Rul)} (hg : GG g) {v : Nat} (h : RV g v) : RP g (v, 0) ∧ v < g.length := by
  induction h with
  | z => exact ⟨.z, by have := hg.ok.a; omega⟩
  | @s v i _ hu ih =>
    obtain ⟨h0, hv⟩ := ih
    obtain ⟨rs, ers, r, hr, hs⟩ := hu
    have hrg : rs ∈ g := List.mem_of_getElem? ers
    have hi : i < g.length := ((hg.ok.r rs hrg).r r hr).s _ hs
    refine ⟨?_, hi⟩
    obtain ⟨xs, ys, hxy⟩ := List.append_of_mem hr
    obtain ⟨a, ha⟩ : ∃ a, a = 1 + sizeN xs := ⟨_, rfl⟩
    have hsz : sizeN rs = sizeN xs + (r.2.length + sizeN ys) := by rw [hxy, sizeN_app, sizeN_cons]
    have hne : r.2 ≠ [] := fun e => by rw [e] at hs; exact nomatch hs
    have pl : ∀ p, p < lastN rs + 1 → (v, p) ∈ places g := fun p hp => mem_places.mpr ⟨rs, ers, hp⟩
    have at_ : ∀ t s, r.2[t]? = some s → ptAt g (v, a + t) = some (.mv s (if t + 1 = r.2.length then lastN rs else a + t + 1)) := fun t s hts => by
      have htl := (List.getElem?_eq_some_iff.mp hts).1
      unfold ptAt
      rw [show g[((v, a + t) : Nat × Nat).1]? = some rs from ers]
      show (ptM rs)[a + t]? = _
      unfold ptM
      rw [ha, show 1 + sizeN xs + t = (sizeN xs + t) + 1 by omega, List.cons_append, List.getElem?_cons_succ]
      rw [List.getElem?_append_left (by rw [List.length_map, mvA_len]; omega), List.getElem?_map]
      have e : (mvA (lastN rs) 1 rs)[sizeN xs + t]? = some (s, if t + 1 = r.2.length then lastN rs else 1 + sizeN xs + t + 1) := by
        have e0 : mvA (lastN rs) 1 rs = mvA (lastN rs) 1 xs ++ (mvR (lastN rs) (1 + sizeN xs) r.2 ++ mvA (lastN rs) (1 + sizeN xs + r.2.length) ys) := by
          conv => lhs; rw [show mvA (lastN rs) 1 rs = mvA (lastN rs) 1 (xs ++ r :: ys) by rw [← hxy]]
          rw [mvA_app, mvA]
        rw [e0, List.getElem?_append_right (by rw [mvA_len]; omega), mvA_len, show sizeN xs + t - sizeN xs = t by omega, List.getElem?_append_left (by rw [mvR_len]; exact htl)]
        exact mvR_get _ _ _ _ _ hts
      rw [e]
      show some (Pt.mv s (if t + 1 = r.2.length then lastN rs else 1 + sizeN xs + t + 1)) = some (Pt.mv s (if t + 1 = r.2.length then lastN rs else sizeN xs + t + 1 + 1))
      rw [show 1 + sizeN xs + t + 1 = sizeN xs + t + 1 + 1 by omega]
    have first : RP g (v, a) := by
      refine .s h0 (named_iff.mpr ⟨pl a (by unfold lastN; have : 0 < r.2.length := List.length_pos_iff.mpr hne; omega), .drw (brP (lastN rs) 1 rs), ?_, ?_⟩)
      · unfold ptAt
        rw [show g[((v, 0) : Nat × Nat).1]? = some rs from ers]
        rfl
      · refine List.mem_map.mpr ⟨(r, a), ?_, rfl⟩
        have e0 : brP (lastN rs) 1 rs = brP (lastN rs) 1 xs ++ ((r, if r.2.isEmpty then lastN rs else 1 + sizeN xs) :: brP (lastN rs) (1 + sizeN xs + r.2.length) ys) := by
          conv => lhs; rw [show brP (lastN rs) 1 rs = brP (lastN rs) 1 (xs ++ r :: ys) by rw [← hxy]]
          rw [brP_app, brP]
        rw [e0]
        refine List.mem_append_right _ ?_
        have : r.2.isEmpty = false := by
          cases e : r.2 with
          | nil => exact absurd e hne
          | cons x l => rfl
        rw [this, ha]
        exact List.mem_cons_self
    have chain : ∀ t, t < r.2.length → RP g (v, a + t) := by
      intro t
      induction t with
      | zero => intro _; exact first
      | succ t ih =>
        intro ht
        have p := ih (by omega)
        have e := at_ t _ (List.getElem?_eq_getElem (by omega : t < r.2.length))
        rw [if_neg (by omega)] at e
        refine .s p (named_iff.mpr ⟨pl _ (by unfold lastN; omega), _, e, ?_⟩)
        show (v, a + (t + 1)) ∈ tgt v _
        cases r.2[t]'(by omega) with
        | l c => exact List.mem_cons_self
        | v j => exact List.mem_cons_self
    obtain ⟨t, htl, et⟩ := List.getElem_of_mem hs
    have e := at_ t (.v i) (by rw [List.getElem?_eq_getElem htl, et])
    refine .s (chain t htl) (named_iff.mpr ⟨mem_places.mpr ?_, _, e, ?_⟩)
    · exact ⟨g[i], List.getElem?_eq_getElem hi, by show 0 < _; omega⟩
    · show (i, 0) ∈ tgt v (.mv (.v i) _)
      simp [tgt]
end LW

namespace EV
theorem mem_insI {a x : Int} : ∀ {l : List Int}, x ∈ insI a l ↔ x = a ∨ x ∈ l
  | [] => by simp [insI]
  | b :: r => by
    unfold insI
    by_cases h : a ≤ b
    · rw [if_pos h]; simp
    · rw [if_neg h, List.mem_cons, mem_insI (l := r), List.mem_cons]
      constructor
      · rintro (h | h | h)
        · exact .inr (.inl h)
        · exact .inl h
        · exact .inr (.inr h)
      · rintro (h | h | h)
        · exact .inr (.inl h)
        · exact .inl h
        · exact .inr (.inr h)
theorem mem_srtI {x : Int} : ∀ {l : List Int}, x ∈ srtI l ↔ x ∈ l
  | [] => Iff.rfl
  | a :: r => by rw [srtI, mem_insI, mem_srtI (l := r), List.mem_cons]
theorem insI_sorted {a : Int} : ∀ {l : List Int}, l.Pairwise (· < ·) → a ∉ l → (insI a l).Pairwise (· < ·)
  | [], _, _ => by simp [insI]
  | b :: r, h, hn => by
    have h' := List.pairwise_cons.mp h
    have hab : a ≠ b := fun e => hn (e ▸ List.mem_cons_self)
    unfold insI
    by_cases hle : a ≤ b
    · rw [if_pos hle]
      refine List.pairwise_cons.mpr ⟨fun x hx => ?_, h⟩
      rcases List.mem_cons.mp hx with rfl | hx
      · omega
      · have := h'.1 x hx; omega
    · rw [if_neg hle]
      refine List.pairwise_cons.mpr ⟨fun x hx => ?_, insI_sorted h'.2 fun m => hn (List.mem_cons_of_mem _ m)⟩
      rcases mem_insI.mp hx with rfl | hx
      · omega
      · exact h'.1 x hx
theorem srtI_sorted : ∀ {l : List Int}, l.Nodup → (srtI l).Pairwise (· < ·)
  | [], _ => List.Pairwise.nil
  | a :: r, h => by
    have h' := List.nodup_cons.mp h
    exact insI_sorted (srtI_sorted h'.2) fun m => h'.1 (mem_srtI.mp m)
def ltP (a b : Int × Int) : Prop := a.1 < b.1 ∨ (a.1 = b.1 ∧ a.2 < b.2)
theorem mem_insP {a x : Int × Int} : ∀ {l : List (Int × Int)}, x ∈ insP a l ↔ x = a ∨ x ∈ l
  | [] => by simp [insP]
  | b :: r => by
    unfold insP
    cases h : leP a b with
    | true => simp
    | false =>
      simp only [Bool.false_eq_true, if_false]
      rw [List.mem_cons, mem_insP (l := r), List.mem_cons]
      constructor
      · rintro (h | h | h)
        · exact .inr (.inl h)
        · exact .inl h
        · exact .inr (.inr h)
      · rintro (h | h | h)
        · exact .inr (.inl h)
        · exact .inl h
        · exact .inr (.inr h)
theorem mem_srtP {x : Int × Int} : ∀ {l : List (Int × Int)}, x ∈ srtP l ↔ x ∈ l
  | [] => Iff.rfl
  | a :: r => by rw [srtP, mem_insP, mem_srtP (l := r), List.mem_cons]
theorem ltP_trans {a b c : Int × Int} (h1 : ltP a b) (h2 : ltP b c) : ltP a c := by
  unfold ltP at *
  omega
theorem leP_lt {a b : Int × Int} (h : leP a b = true) (hn : a ≠ b) : ltP a b := by
  unfold leP at h
  unfold ltP
  simp only [Bool.or_eq_true, Bool.and_eq_true, decide_eq_true_eq] at h
  rcases h with h | ⟨h1, h2⟩
  · exact .inl h
  · refine .inr ⟨h1, ?_⟩
    have : a.2 ≠ b.2 := fun e => hn (Prod.ext h1 e)
    omega
theorem leP_gt {a b : Int × Int} (h : leP a b = false) : ltP b a := by
  unfold leP at h
  unfold ltP
  simp only [Bool.or_eq_false_iff, Bool.and_eq_false_iff, decide_eq_false_iff_not] at h
  omega
theorem insP_sorted {a : Int × Int} : ∀ {l : List (Int × Int)}, l.Pairwise ltP → a ∉ l → (insP a l).Pairwise ltP
  | [], _, _ => by simp [insP]
  | b :: r, h, hn => by
    have h' := List.pairwise_cons.mp h
    have hab : a ≠ b := fun e => hn (e ▸ List.mem_cons_self)
    unfold insP
    cases hle : leP a b with
    | true =>
      simp only [if_true]
      have hl := leP_lt hle hab
      refine List.pairwise_cons.mpr ⟨fun x hx => ?_, h⟩
      rcases List.mem_cons.mp hx with rfl | hx
      · exact hl
      · exact ltP_trans hl (h'.1 x hx)
    | false =>
      simp only [Bool.false_eq_true, if_false]
      refine List.pairwise_cons.mpr ⟨fun x hx => ?_, insP_sorted h'.2 fun m => hn (List.mem_cons_of_mem _ m)⟩
      rcases mem_insP.mp hx with rfl | hx
      · exact leP_gt hle
      · exact h'.1 x hx
theorem srtP_sorted : ∀ {l : List (Int × Int)}, l.Nodup → (srtP l).Pairwise ltP
  | [], _ => List.Pairwise.nil
  | a :: r, h => by
    have h' := List.nodup_cons.mp h
    exact insP_sorted (srtP_sorted h'.2) fun m => h'.1 (mem_srtP.mp m)
theorem sorted_ext : ∀ {a b : List Int}, a.Pairwise (· < ·) → b.Pairwise (· < ·) → (∀ x, x ∈ a ↔ x ∈ b) → a = b
  | [], [], _, _, _ => rfl
  | [], y :: ys, _, _, h => absurd ((h y).mpr List.mem_cons_self) (by simp)
  | x :: xs, [], _, _, h => absurd ((h x).mp List.mem_cons_self) (by simp)
  | x :: xs, y :: ys, ha, hb, h => by
    have ha' := List.pairwise_cons.mp ha
    have hb' := List.pairwise_cons.mp hb
    have e : x = y := by
      rcases List.mem_cons.mp ((h x).mp List.mem_cons_self) with e | m
      · exact e
      · rcases List.mem_cons.mp ((h y).mpr List.mem_cons_self) with e | m2
        · exact e.symm
        · have := hb'.1 x m; have := ha'.1 y m2; omega
    subst e
    rw [sorted_ext ha'.2 hb'.2 fun z => ?_]
    constructor
    · intro hz
      rcases List.mem_cons.mp ((h z).mp (List.mem_cons_of_mem _ hz)) with e | m
      · have := ha'.1 z hz; omega
      · exact m
    · intro hz
      rcases List.mem_cons.mp ((h z).mpr (List.mem_cons_of_mem _ hz)) with e | m
      · have := hb'.1 z hz; omega
      · exact m
theorem goL_filt2 {α : Type} {f : D → Sto → Res (List D)} {z : Sto} {h g : α → D} {c : α → Bool} {l : List α} (hh : ∀ a ∈ l, f (h a) z = .ok (if c a then [g a] else []) z) : goL f (l.map h) z = .ok ((l.filter c).map g) z := by
  induction l with
  | nil => rfl
  | cons a l ih =>
    rw [List.map_cons]
    unfold goL
    rw [hh a List.mem_cons_self, Res.bind_ok, ih fun b hb => hh b (List.mem_cons_of_mem _ hb), Res.bind_ok, List.filter_cons]
    cases c a <;> rfl
theorem eqvs_ints : ∀ l : List Int, D.eqvs (l.map D.int) (l.map D.int) = true
  | [] => rfl
  | a :: l => by
    rw [List.map_cons]
    unfold D.eqvs
    rw [eqvs_ints l, show D.eqv (.int a) (.int a) = true by unfold D.eqv; exact beq_self_eq_true _]
    rfl
theorem plns_int : ∀ l : List Int, D.plns (l.map D.int) = true ∧ D.deps (l.map D.int) = 0
  | [] => ⟨rfl, rfl⟩
  | a :: l => by
    obtain ⟨h1, h2⟩ := plns_int l
    rw [List.map_cons]
    unfold D.plns D.deps
    rw [h1, h2]
    exact ⟨rfl, rfl⟩
theorem eqD_ints (l : List Int) : eqD (.lst (l.map D.int)) (.lst (l.map D.int)) = some true := by
  obtain ⟨h1, h2⟩ := plns_int l
  unfold eqD
  rw [show D.pln (.lst (l.map D.int)) = true from h1, show D.dep (.lst (l.map D.int)) = 1 by show D.deps (l.map D.int) + 1 = 1; rw [h2]]
  show some (D.eqvs (l.map D.int) (l.map D.int)) = _
  rw [eqvs_ints]
end EV
namespace LW
open EV
theorem law_lists {g : List (List Rul)} (hg : GG g) {F : List (Nat × Nat)} (hF : FI g (RP g) F F.length) {V : List Nat} (hV : VI g.length (RV g) V) (h0 : 0 ∈ V) (hc : ∀ v ∈ V, ∀ i, uses g v i → i ∈ V) :
    ((srtP (F.map fun q => (((q.1 : Nat) : Int), ((q.2 : Nat) : Int)))).filter fun p => decide (p.2 = 0)).map (fun p => p.1) = srtI (V.map fun v => ((v : Nat) : Int)) := by
  have fF : ∀ q, RP g q → q ∈ F := fun q h => by
    induction h with
    | z => exact hF.z
    | @s q t _ ht ih =>
      obtain ⟨j, hj, e⟩ := List.getElem_of_mem ih
      exact hF.cl j hj q (by rw [List.getElem?_eq_getElem hj, e]) t ht
  have fV : ∀ v, RV g v → v ∈ V := fun v h => by
    induction h with
    | z => exact h0
    | s _ hu ih => exact hc _ ih _ hu
  refine sorted_ext ?_ (srtI_sorted ?_) fun x => ?_
  · have nd : (F.map fun q => (((q.1 : Nat) : Int), ((q.2 : Nat) : Int))).Nodup := by
      refine List.pairwise_map.mpr ((show List.Pairwise (· ≠ ·) F from hF.nd).imp fun hne e => hne ?_)
      injection e with e1 e2
      exact Prod.ext (by omega) (by omega)
    refine List.pairwise_map.mpr (List.pairwise_filter.mpr ((srtP_sorted nd).imp fun {a b} h ha hb => ?_))
    have ha := of_decide_eq_true ha
    have hb := of_decide_eq_true hb
    unfold ltP at h
    omega
  · exact List.pairwise_map.mpr ((show List.Pairwise (· ≠ ·) V from hV.nd).imp fun hne e => hne (by omega))
  · rw [mem_srtI]
    constructor
    · intro h
      obtain ⟨p, hp, rfl⟩ := List.mem_map.mp h
      obtain ⟨hp, h2⟩ := List.mem_filter.mp hp
      obtain ⟨q, hq, rfl⟩ := List.mem_map.mp (mem_srtP.mp hp)
      exact List.mem_map.mpr ⟨q.1, fV _ (rp_rv (hF.p q hq)), rfl⟩
    · intro h
      obtain ⟨v, hv, rfl⟩ := List.mem_map.mp h
      refine List.mem_map.mpr ⟨((v : Int), 0), List.mem_filter.mpr ⟨mem_srtP.mpr (List.mem_map.mpr ⟨(v, 0), fF _ (rv_rp hg (hV.p v hv)).1, rfl⟩), by simp⟩, rfl⟩
end LW

namespace EV
theorem evE_callS1 {Z : Cxt} {f : Nat} {a : C} {σ : Sg} {z z2 : Sto} {d : D} (h1 : evE Z a σ z = .ok .strm z) (n1 : isBor a = false) (p : Z.cl f [.strm] z = .ok d z2) : evE Z (.call f (.cons a .nil)) σ z = .ok d z2 := by
  unfold evE
  simp only [evEs, h1, Res.bind_ok, hasBor, n1, Bool.or_self]
  rw [callE_strm (by simp [D.noss, D.nos]), p]
theorem evE_call1z {Z : Cxt} {f : Nat} {a : C} {σ : Sg} {z z2 : Sto} {x d : D} (h1 : evE Z a σ z = .ok x z) (n1 : isBor a = false) (p : callE (Z.cl f [x]) false [x] z = .ok d z2) : evE Z (.call f (.cons a .nil)) σ z = .ok d z2 := by
  unfold evE
  simp only [evEs, h1, Res.bind_ok, hasBor, n1, Bool.or_self]
  exact p
theorem noss_of : ∀ {ds : List D}, (∀ d ∈ ds, d.nos = true) → D.noss ds = true
  | [], _ => rfl
  | d :: ds, h => by
    unfold D.noss
    rw [h d List.mem_cons_self, noss_of fun x hx => h x (List.mem_cons_of_mem _ hx)]
    rfl
end EV
namespace LW
open EV
theorem sym_nos {ss : List Sym} : D.noss (ss.map Sym.d) = true := noss_of fun d hd => by
  obtain ⟨s, _, rfl⟩ := List.mem_map.mp hd
  cases s <;> rfl
theorem rule_nos {r : Rul} : (ruleD r).nos = true := by
  have : D.noss [R r.1, .tup (r.2.map Sym.d)] = true := by
    unfold D.noss D.noss D.noss
    rw [show D.nos (.tup (r.2.map Sym.d)) = true from sym_nos]
    rfl
  exact this
theorem rules_nos {rs : List Rul} : (rulesD rs).nos = true := noss_of fun d hd => by
  obtain ⟨s, _, rfl⟩ := List.mem_map.mp hd
  exact rule_nos
theorem gram_nos {g : List (List Rul)} : (gramD g).nos = true := noss_of fun d hd => by
  obtain ⟨s, _, rfl⟩ := List.mem_map.mp hd
  exact rules_nos
theorem gen_GG {g : List (List Rul)} (h1 : 1 ≤ g.length) (h2 : g.length ≤ 3) (h : ∀ rs ∈ g, genR g.length rs) : GG g := by
  refine ⟨gen_ok h1 h2 h, fun rs hrs r hr => ((h rs hrs).ok r hr).2, fun rs hrs => ?_, fun rs hrs => (h rs hrs).len.2⟩
  have := sum_le (c := 3) (rs.map fun r => r.2.length) fun x hx => by
    obtain ⟨r, hr, rfl⟩ := List.mem_map.mp hx
    exact ((h rs hrs).ok r hr).2
  rw [List.length_map] at this
  have l := (h rs hrs).len.2
  unfold sizeN
  omega
theorem says : Says L.T 30 0 63 := by
  intro xs _ _
  obtain ⟨Z, hZ⟩ : ∃ Z : Cxt, Z = ⟨callF L.T 29, L.T.con, L.T.W⟩ := ⟨_, rfl⟩
  have hcl : Z.cl = callF L.T 29 := by rw [hZ]
  obtain ⟨z1, st1, c1⟩ := stream_ok (T := L.T) (k := 28) (f := 1) (xs := xs) rfl
  obtain ⟨g, z2, g1, g2, gr, st2, c2⟩ := grammar32 (k := 25) st1 (by decide)
  have hg := gen_GG g1 g2 gr
  have gn : (gramD g).nos = true := gram_nos
  have Gn : (graphD g).nos = true := (gd_graph hg).nos
  have hl3 := hg.ok.b
  obtain ⟨F, hF, p66⟩ := reached66 (k := 22) hg (RP g) .z fun q t h ht => .s h ht
  obtain ⟨V, hV, hV0, hVc, p67⟩ := vars67 hg (RV g) .z fun v i h hu => .s h hu
  have lists := law_lists hg hF hV hV0 hVc
  have p64 := (graph64 (k := 28) (g := g) (fun rs hrs r hr => by have := hg.l3 rs hrs r hr; omega) (fun rs hrs => by have := hg.r3 rs hrs; omega) (fun rs hrs => by have := hg.sz rs hrs; omega) (by omega)).ce (z := z2)
  have p37 := graph37 (k := 21) hg
  have q66 : callF L.T 29 66 [.loc 0, placeD (0, 0)] (SG g) = .ok (.lst ((srtP (F.map fun q => (((q.1 : Nat) : Int), ((q.2 : Nat) : Int)))).map fun p => .ktp [.i p.1, .i p.2])) (SG g) := p66
  obtain ⟨xs2, cc, n2, hz2, _, _⟩ := st2
  subst hz2
  obtain ⟨z3, hz3⟩ : ∃ z3 : Sto, z3 = ⟨some (xs2, cc, n2), [cellG g]⟩ := ⟨_, rfl⟩
  have p65 := (lequal65 (k := 19) hg).ce (z := z3)
  have q67 := (p67 28).ce (z := z3)
  have c37 : callE (Z.cl 37 [gramD g]) false [gramD g] ⟨some (xs2, cc, n2), []⟩ = .ok (.loc 0) z3 := by
    rw [hcl, hz3]
    exact callE_hide (cl := callF L.T 29 37 [gramD g]) (ds := [gramD g]) (d := .loc 0) (z := ⟨some (xs2, cc, n2), []⟩) (cs' := [cellG g]) (by simp [D.noss, gn]) rfl p37
  have c66 : callE (Z.cl 66 [.loc 0, placeD (0, 0)]) false [.loc 0, placeD (0, 0)] z3 = .ok (.lst ((srtP (F.map fun q => (((q.1 : Nat) : Int), ((q.2 : Nat) : Int)))).map fun p => .ktp [.i p.1, .i p.2])) z3 := by
    rw [hcl, hz3]
    have e := callE_hide (cl := callF L.T 29 66 [.loc 0, placeD (0, 0)]) (ds := [.loc 0, placeD (0, 0)]) (z := ⟨some (xs2, cc, n2), [cellG g]⟩) (cs' := [cellG g]) rfl (by simp [cellG, Cell.nos, Gn]) q66
    rw [e]
    congr 2
    exact trim_self
  rw [← hcl] at c2 p64 p65 q67
  refine ⟨z3, ?_⟩
  rw [callF_eq (fd := f0) rfl rfl, ← hZ]
  have q : evSs Z b0 [vl (.ext xs), none, none, none, none, none, none] ⟨none, []⟩ = .ok (.rt (.bl true)) z3 := by
    unfold b0
    refine run_nx (evS_set (d := .strm) (z' := z1) ?_) ?_
    · rw [← hcl] at c1
      simp only [evE, evEs, List.getElem?_cons_zero, Res.bind_ok, hasBor, isBor, Bool.or_self]
      obtain ⟨xs', c', n', hz, _⟩ := st1
      subst hz
      unfold callE
      simp [c1, D.noss, D.nos, trim, D.lb]
    refine run_nx (evS_set (d := gramD g) (z' := ⟨some (xs2, cc, n2), []⟩) (evE_callS1 rfl rfl c2)) ?_
    refine run_nx (evS_set (d := graphD g) (z' := ⟨some (xs2, cc, n2), []⟩) (evE_call1 (x := gramD g) rfl rfl p64)) ?_
    refine run_nx (evS_set (d := .loc 0) (z' := z3) (evE_call1z (x := gramD g) rfl rfl c37)) ?_
    have ea : ∀ σ : Sg, σ[4]? = some (vl (.loc 0)) → evE Z (.attr (.var 4) 0 0) σ z3 = .ok (graphD g) z3 := fun σ h4 => by
      unfold evE
      unfold evE
      rw [h4, hz3]
      rfl
    refine run_same (evS_if_f (d := .bl false) (evE_not (k := true) (evE_call2 (x := graphD g) (y := graphD g) (ea _ rfl) rfl rfl rfl p65) rfl) rfl) ?_
    have em : evE Z (.meth 0 66 (.var 4) (.cons (.ktt (.cons (.int (0)) (.cons (.int (0)) (.nil)))) (.nil))) [vl (.ext xs), vl .strm, vl (gramD g), vl (graphD g), vl (.loc 0), none, none] z3 = .ok (.lst ((srtP (F.map fun q => (((q.1 : Nat) : Int), ((q.2 : Nat) : Int)))).map fun p => .ktp [.i p.1, .i p.2])) z3 := by
      unfold evE
      rw [show evE Z (.var 4) [vl (.ext xs), vl .strm, vl (gramD g), vl (graphD g), vl (.loc 0), none, none] z3 = .ok (.loc 0) z3 from rfl, Res.bind_ok]
      rw [show insAt z3 0 (.loc 0) = some (0, [(0, graphD g)]) by rw [hz3]; rfl]
      rw [show lift (some (0, [(0, graphD g)])) z3 = .ok (0, [(0, graphD g)]) z3 from rfl, Res.bind_ok]
      rw [show evEs Z (.cons (.ktt (.cons (.int (0)) (.cons (.int (0)) (.nil)))) (.nil)) [vl (.ext xs), vl .strm, vl (gramD g), vl (graphD g), vl (.loc 0), none, none] z3 = .ok [placeD (0, 0)] z3 from rfl, Res.bind_ok]
      exact c66
    have lF : (F.map fun q => (((q.1 : Nat) : Int), ((q.2 : Nat) : Int))).length ≤ 33 := by
      rw [List.length_map]
      exact Nat.le_trans (pigeon hF.nd hF.sub) (places_len hg)
    have ls : ∀ l : List (Int × Int), (srtP l).length = l.length := fun l => by
      induction l with
      | nil => rfl
      | cons a l ih =>
        have li : ∀ (b : Int × Int) (m : List (Int × Int)), (insP b m).length = m.length + 1 := fun b m => by
          induction m with
          | nil => rfl
          | cons c m ih2 =>
            unfold insP
            split
            · rfl
            · rw [List.length_cons, ih2]; rfl
        rw [srtP, li, ih]; rfl
    have cm : ∀ S : List (Int × Int), S.length ≤ 1000 → evE Z (.meth 0 66 (.var 4) (.cons (.ktt (.cons (.int (0)) (.cons (.int (0)) (.nil)))) (.nil))) [vl (.ext xs), vl .strm, vl (gramD g), vl (graphD g), vl (.loc 0), none, none] z3 = .ok (.lst (S.map fun p => .ktp [.i p.1, .i p.2])) z3 →
        evE Z (.compI (.nm 6) (.seq (.meth 0 66 (.var 4) (.cons (.ktt (.cons (.int (0)) (.cons (.int (0)) (.nil)))) (.nil)))) (.cmp .eq (.idx (.var 6) (.int (1))) (.int (0))) (.idx (.var 6) (.int (0)))) [vl (.ext xs), vl .strm, vl (gramD g), vl (graphD g), vl (.loc 0), none, none] z3 = .ok (.lst (((S.filter fun p => decide (p.2 = 0)).map fun p => p.1).map D.int)) z3 := fun S hS em => by
      rw [List.map_map]
      refine evE_compI rfl (evI_lst em) (goL_filt2 (c := fun p : Int × Int => decide (p.2 = 0)) (g := D.int ∘ fun p : Int × Int => p.1) fun p _ => ?_) (lim_le (by rw [List.length_map]; exact Nat.le_trans (List.length_filter_le _ _) hS))
      refine turn_cond (b := decide (p.2 = 0)) (y := .bl (decide (p.2 = 0))) rfl (evE_cmp (x := .int p.2) (y := .int 0) rfl rfl ?_) rfl rfl
      show some (p.2 == 0) = _
      congr 1
    have cm := cm _ (by rw [ls]; exact Nat.le_trans lF (by decide)) em
    rw [lists] at cm
    refine run_nx (evS_set (z' := z3) cm) (run_rt (evS_ret ?_))
    refine evE_cmp (z1 := z3) rfl (evE_call1 (x := gramD g) rfl rfl q67) (eqD_ints _)
  exact congrArg runS q
end LW

namespace EV
theorem okAll_cons {G : Gi} {f : Fn} {s : Src} {fs : List Fn} {ss : List Src} (h : srcB G f s = true) (h2 : s.d.dfl.isEmpty = true) (h3 : s.d.kwd.isEmpty = true) (h4 : okAll G fs ss = true) : okAll G (f :: fs) (s :: ss) = true := by
  unfold okAll
  rw [h, h2, h3, h4]
  rfl
end EV
namespace LW
open PySem PySem.Spec PyProof.Rows L2 EV
theorem bk0 : BindOk s0 := fun _ _ _ _ _ _ us hl => match us, hl with | [_], _ => by kernel_rfl
theorem bk1 : BindOk s1 := fun _ _ _ _ _ _ us hl => match us, hl with | [_], _ => by kernel_rfl
theorem bk3 : BindOk s3 := fun _ _ _ _ _ _ us hl => match us, hl with | [_, _], _ => by kernel_rfl
theorem bk8 : BindOk s8 := fun _ _ _ _ _ _ us hl => match us, hl with | [_, _], _ => by kernel_rfl
theorem bk12 : BindOk s12 := fun _ _ _ _ _ _ us hl => match us, hl with | [_, _], _ => by kernel_rfl
theorem bk14 : BindOk s14 := fun _ _ _ _ _ _ us hl => match us, hl with | [_, _], _ => by kernel_rfl
theorem bk16 : BindOk s16 := fun _ _ _ _ _ _ us hl => match us, hl with | [_, _], _ => by kernel_rfl
theorem bk19 : BindOk s19 := fun _ _ _ _ _ _ us hl => match us, hl with | [_, _, _], _ => by kernel_rfl
theorem bk20 : BindOk s20 := fun _ _ _ _ _ _ us hl => match us, hl with | [_, _], _ => by kernel_rfl
theorem bk22 : BindOk s22 := fun _ _ _ _ _ _ us hl => match us, hl with | [_], _ => by kernel_rfl
theorem bk23 : BindOk s23 := fun _ _ _ _ _ _ us hl => match us, hl with | [_], _ => by kernel_rfl
theorem bk24 : BindOk s24 := fun _ _ _ _ _ _ us hl => match us, hl with | [_, _], _ => by kernel_rfl
theorem bk25 : BindOk s25 := fun _ _ _ _ _ _ us hl => match us, hl with | [_], _ => by kernel_rfl
theorem bk26 : BindOk s26 := fun _ _ _ _ _ _ us hl => match us, hl with | [_], _ => by kernel_rfl
theorem bk27 : BindOk s27 := fun _ _ _ _ _ _ us hl => match us, hl with | [_, _], _ => by kernel_rfl
theorem bk28 : BindOk s28 := fun _ _ _ _ _ _ us hl => match us, hl with | [_, _], _ => by kernel_rfl
theorem bk29 : BindOk s29 := fun _ _ _ _ _ _ us hl => match us, hl with | [_], _ => by kernel_rfl
theorem bk30 : BindOk s30 := fun _ _ _ _ _ _ us hl => match us, hl with | [_], _ => by kernel_rfl
theorem bk31 : BindOk s31 := fun _ _ _ _ _ _ us hl => match us, hl with | [_], _ => by kernel_rfl
theorem bk32 : BindOk s32 := fun _ _ _ _ _ _ us hl => match us, hl with | [_], _ => by kernel_rfl
theorem bk37 : BindOk s37 := fun _ _ _ _ _ _ us hl => match us, hl with | [_], _ => by kernel_rfl
theorem bk42 : BindOk s42 := fun _ _ _ _ _ _ us hl => match us, hl with | [_], _ => by kernel_rfl
theorem bk51 : BindOk s51 := fun _ _ _ _ _ _ us hl => match us, hl with | [_], _ => by kernel_rfl
theorem bk57 : BindOk s57 := fun _ _ _ _ _ _ us hl => match us, hl with | [_, _], _ => by kernel_rfl
theorem bk58 : BindOk s58 := fun _ _ _ _ _ _ us hl => match us, hl with | [_, _, _], _ => by kernel_rfl
theorem bk60 : BindOk s60 := fun _ _ _ _ _ _ us hl => match us, hl with | [_], _ => by kernel_rfl
theorem bk61 : BindOk s61 := fun _ _ _ _ _ _ us hl => match us, hl with | [_, _], _ => by kernel_rfl
theorem bk62 : BindOk s62 := fun _ _ _ _ _ _ us hl => match us, hl with | [_, _], _ => by kernel_rfl
theorem bk63 : BindOk s63 := fun _ _ _ _ _ _ us hl => match us, hl with | [_], _ => by kernel_rfl
theorem bk64 : BindOk s64 := fun _ _ _ _ _ _ us hl => match us, hl with | [_], _ => by kernel_rfl
theorem bk65 : BindOk s65 := fun _ _ _ _ _ _ us hl => match us, hl with | [_, _], _ => by kernel_rfl
theorem bk66 : BindOk s66 := fun _ _ _ _ _ _ us hl => match us, hl with | [_, _], _ => by kernel_rfl
theorem bk67 : BindOk s67 := fun _ _ _ _ _ _ us hl => match us, hl with | [_], _ => by kernel_rfl
theorem bk68 : BindOk s68 := fun _ _ _ _ _ _ us hl => match us, hl with | [_], _ => by kernel_rfl
theorem bk69 : BindOk s69 := fun _ _ _ _ _ _ us hl => match us, hl with | [_, _], _ => by kernel_rfl
theorem bk70 : BindOk s70 := fun _ _ _ _ _ _ us hl => match us, hl with | [_, _], _ => by kernel_rfl
theorem bk71 : BindOk s71 := fun _ _ _ _ _ _ us hl => match us, hl with | [_, _], _ => by kernel_rfl
theorem bk72 : BindOk s72 := fun _ _ _ _ _ _ us hl => match us, hl with | [_, _], _ => by kernel_rfl
theorem bk73 : BindOk s73 := fun _ _ _ _ _ _ us hl => match us, hl with | [_], _ => by kernel_rfl
theorem bk74 : BindOk s74 := fun _ _ _ _ _ _ us hl => match us, hl with | [_], _ => by kernel_rfl
theorem binds : AllB L.srcs := ⟨fun _ => bk0, fun _ => bk1, fun _ => bk1, fun _ => bk3, fun _ => bk1, fun _ => bk1, fun _ => bk1, fun _ => bk1, fun _ => bk8, fun _ => bk1, fun _ => bk1, fun _ => bk1, fun _ => bk12, fun _ => bk1, fun _ => bk14, fun _ => bk1, fun _ => bk16, fun _ => bk1, fun _ => bk1, fun _ => bk19, fun _ => bk20, fun _ => bk1, fun _ => bk22, fun _ => bk23, fun _ => bk24, fun _ => bk25, fun _ => bk26, fun _ => bk27, fun _ => bk28, fun _ => bk29, fun _ => bk30, fun _ => bk31, fun _ => bk32, fun _ => bk1, fun _ => bk1, fun _ => bk1, fun _ => bk1, fun _ => bk37, fun _ => bk1, fun _ => bk1, fun _ => bk1, (fun h => absurd h (by decide)), fun _ => bk42, fun _ => bk1, fun _ => bk1, fun _ => bk1, fun _ => bk1, fun _ => bk1, fun _ => bk1, fun _ => bk1, fun _ => bk1, fun _ => bk51, fun _ => bk1, fun _ => bk1, fun _ => bk1, fun _ => bk1, fun _ => bk1, fun _ => bk57, fun _ => bk58, fun _ => bk1, fun _ => bk60, fun _ => bk61, fun _ => bk62, fun _ => bk63, fun _ => bk64, fun _ => bk65, fun _ => bk66, fun _ => bk67, fun _ => bk68, fun _ => bk69, fun _ => bk70, fun _ => bk71, fun _ => bk72, fun _ => bk73, fun _ => bk74, trivial⟩
theorem kb41 : KBindOk s41 "procedures" := fun _ _ _ _ _ _ us ws h1 h2 => match us, ws, h1, h2 with | [_], [_], _, _ => by kernel_rfl
theorem bx0 : BindOk x0 := fun _ _ _ _ _ _ us hl => match us, hl with | [_, _], _ => by kernel_rfl
theorem bx1 : BindOk x1 := fun _ _ _ _ _ _ us hl => match us, hl with | [_, _, _], _ => by kernel_rfl
theorem side_xs : ∀ p ∈ L.xs, BindOk p.1 ∧ p.1.d.dfl = [] ∧ p.1.d.kwd = [] ∧ FnScope p.1.N p.1.ps p.1.d.scope ∧ p.1.N.length = p.2.length + 1 ∧ p.1.ps.length = p.2.length + 1 ∧ p.2 ≠ [] ∧ p.2.length ≤ 20 ∧ iniB p.1.N p.1.d.scope 1 p.2 (dropDoc p.1.d.body) = true ∧ p.2.Nodup := fun p hp => by
  rcases List.mem_cons.mp hp with rfl | hp
  · exact ⟨bx0, rfl, rfl, ⟨rfl, rfl, rfl, by decide +kernel, rfl, by decide +kernel, by decide +kernel⟩, rfl, rfl, by decide, by decide, by kernel_rfl, by decide +kernel⟩
  rcases List.mem_cons.mp hp with rfl | hp
  · exact ⟨bx1, rfl, rfl, ⟨rfl, rfl, rfl, by decide +kernel, rfl, by decide +kernel, by decide +kernel⟩, rfl, rfl, by decide, by decide, by kernel_rfl, by decide +kernel⟩
  cases hp
theorem side_kw : ∀ p ∈ L.kws, ∀ s, L.srcs[p.2.1]? = some s → KBindOk s p.2.2 := fun p hp s hs => by
  rcases List.mem_cons.mp hp with rfl | hp
  · cases hs; exact kb41
  cases hp
theorem side : Side L := ⟨side_xs, side_kw⟩
theorem tk0 : srcB L.G f0 s0 = true := by kernel_rfl
theorem tk1 : srcB L.G f1 s1 = true := by kernel_rfl
theorem tk3 : srcB L.G f3 s3 = true := by kernel_rfl
theorem tk8 : srcB L.G f8 s8 = true := by kernel_rfl
theorem tk12 : srcB L.G f12 s12 = true := by kernel_rfl
theorem tk14 : srcB L.G f14 s14 = true := by kernel_rfl
theorem tk16 : srcB L.G f16 s16 = true := by kernel_rfl
theorem tk19 : srcB L.G f19 s19 = true := by kernel_rfl
theorem tk20 : srcB L.G f20 s20 = true := by kernel_rfl
theorem tk22 : srcB L.G f22 s22 = true := by kernel_rfl
theorem tk23 : srcB L.G f23 s23 = true := by kernel_rfl
theorem tk24 : srcB L.G f24 s24 = true := by kernel_rfl
theorem tk25 : srcB L.G f25 s25 = true := by kernel_rfl
theorem tk26 : srcB L.G f26 s26 = true := by kernel_rfl
theorem tk27 : srcB L.G f27 s27 = true := by kernel_rfl
theorem tk28 : srcB L.G f28 s28 = true := by kernel_rfl
theorem tk29 : srcB L.G f29 s29 = true := by kernel_rfl
theorem tk30 : srcB L.G f30 s30 = true := by kernel_rfl
theorem tk31 : srcB L.G f31 s31 = true := by kernel_rfl
theorem tk32 : srcB L.G f32 s32 = true := by kernel_rfl
theorem tk37 : srcB L.G f37 s37 = true := by kernel_rfl
theorem tk41 : srcB L.G f41 s41 = true := by kernel_rfl
theorem tk42 : srcB L.G f42 s42 = true := by kernel_rfl
theorem tk51 : srcB L.G f51 s51 = true := by kernel_rfl
theorem tk57 : srcB L.G f57 s57 = true := by kernel_rfl
theorem tk58 : srcB L.G f58 s58 = true := by kernel_rfl
theorem tk60 : srcB L.G f60 s60 = true := by kernel_rfl
theorem tk61 : srcB L.G f61 s61 = true := by kernel_rfl
theorem tk62 : srcB L.G f62 s62 = true := by kernel_rfl
theorem tk63 : srcB L.G f63 s63 = true := by kernel_rfl
theorem tk64 : srcB L.G f64 s64 = true := by kernel_rfl
theorem tk65 : srcB L.G f65 s65 = true := by kernel_rfl
theorem tk66 : srcB L.G f66 s66 = true := by kernel_rfl
theorem tk67 : srcB L.G f67 s67 = true := by kernel_rfl
theorem tk68 : srcB L.G f68 s68 = true := by kernel_rfl
theorem tk69 : srcB L.G f69 s69 = true := by kernel_rfl
theorem tk70 : srcB L.G f70 s70 = true := by kernel_rfl
theorem tk71 : srcB L.G f71 s71 = true := by kernel_rfl
theorem tk72 : srcB L.G f72 s72 = true := by kernel_rfl
theorem tk73 : srcB L.G f73 s73 = true := by kernel_rfl
theorem tk74 : srcB L.G f74 s74 = true := by kernel_rfl
theorem allok : okAll L.G L.fns L.srcs = true := okAll_cons tk0 rfl rfl (okAll_cons tk1 rfl rfl (okAll_cons tk1 rfl rfl (okAll_cons tk3 rfl rfl (okAll_cons tk1 rfl rfl (okAll_cons tk1 rfl rfl (okAll_cons tk1 rfl rfl (okAll_cons tk1 rfl rfl (okAll_cons tk8 rfl rfl (okAll_cons tk1 rfl rfl (okAll_cons tk1 rfl rfl (okAll_cons tk1 rfl rfl (okAll_cons tk12 rfl rfl (okAll_cons tk1 rfl rfl (okAll_cons tk14 rfl rfl (okAll_cons tk1 rfl rfl (okAll_cons tk16 rfl rfl (okAll_cons tk1 rfl rfl (okAll_cons tk1 rfl rfl (okAll_cons tk19 rfl rfl (okAll_cons tk20 rfl rfl (okAll_cons tk1 rfl rfl (okAll_cons tk22 rfl rfl (okAll_cons tk23 rfl rfl (okAll_cons tk24 rfl rfl (okAll_cons tk25 rfl rfl (okAll_cons tk26 rfl rfl (okAll_cons tk27 rfl rfl (okAll_cons tk28 rfl rfl (okAll_cons tk29 rfl rfl (okAll_cons tk30 rfl rfl (okAll_cons tk31 rfl rfl (okAll_cons tk32 rfl rfl (okAll_cons tk1 rfl rfl (okAll_cons tk1 rfl rfl (okAll_cons tk1 rfl rfl (okAll_cons tk1 rfl rfl (okAll_cons tk37 rfl rfl (okAll_cons tk1 rfl rfl (okAll_cons tk1 rfl rfl (okAll_cons tk1 rfl rfl (okAll_cons tk41 rfl rfl (okAll_cons tk42 rfl rfl (okAll_cons tk1 rfl rfl (okAll_cons tk1 rfl rfl (okAll_cons tk1 rfl rfl (okAll_cons tk1 rfl rfl (okAll_cons tk1 rfl rfl (okAll_cons tk1 rfl rfl (okAll_cons tk1 rfl rfl (okAll_cons tk1 rfl rfl (okAll_cons tk51 rfl rfl (okAll_cons tk1 rfl rfl (okAll_cons tk1 rfl rfl (okAll_cons tk1 rfl rfl (okAll_cons tk1 rfl rfl (okAll_cons tk1 rfl rfl (okAll_cons tk57 rfl rfl (okAll_cons tk58 rfl rfl (okAll_cons tk1 rfl rfl (okAll_cons tk60 rfl rfl (okAll_cons tk61 rfl rfl (okAll_cons tk62 rfl rfl (okAll_cons tk63 rfl rfl (okAll_cons tk64 rfl rfl (okAll_cons tk65 rfl rfl (okAll_cons tk66 rfl rfl (okAll_cons tk67 rfl rfl (okAll_cons tk68 rfl rfl (okAll_cons tk69 rfl rfl (okAll_cons tk70 rfl rfl (okAll_cons tk71 rfl rfl (okAll_cons tk72 rfl rfl (okAll_cons tk73 rfl rfl (okAll_cons tk74 rfl rfl (rfl)))))))))))))))))))))))))))))))))))))))))))))))))))))))))))))))))))))))))))
end LW

open PySem PySem.W PySem.Calls PyProof.Rows
theorem PySem.Challenge.cw_oddscall_k73_graphs_of_grammars_holds : PySem.Challenge.rw_oddscall_k73_graphs_of_grammars.Holds := by
  w_on; o_law
  refine HandSHeadRun.head_imp (r := LW.Rw) (q := view LW.Rw.prog [0, 64]) (H := LW.hk) (ob := LW.ob) (M := 20000) (loose := LW.loose) (d := HandSHeadRun.topDef LW.Rw.prog 64) (kwd := []) LW.ob_eq LW.run
    (by kernel_rfl) (by kernel_rfl) (by kernel_rfl) (by rfl) (by first | assumption | decide +kernel) (by decide +kernel) ⟨rfl, rfl, rfl, rfl, rfl, by decide +kernel⟩ ?hw ?hc
  case hw => w_witness2
  case hc =>
    exact EV.law_end (l := PySem.Challenge.rw_oddscall_k73_graphs_of_grammars) (L := LW.L) (m := 4) (k := 30) (f := 0) (n := 63) (x := "_law_script") (s := LW.s0) rfl (by decide) (by kernel_rfl) ⟨rfl, by decide, by decide⟩ LW.allok LW.binds LW.side (by rfl) rfl rfl (by kernel_rfl) LW.says

