import PyProof.Rows.All
import HandS.ForMost
import HandS.Exc
import HandS.Walk
import HandS.Lambda
import HandS.EndTab
import HandS.TupAny
import HandS.TupMul
import HandS.TupLe
import HandS.Style
import HandS.IsInst
import HandS.SortInts
import HandS.SortRule
import HandS.Conv
import HandS.Deep
import HandS.RaiseMore
import HandS.Zip
import HandS.Small
import HandS.TupSets
import HandS.DictComp
import HandS.TryMany
import HandS.ExcOwn
import Wide.All
import OpenK.AllK
import Wide.FinOn
import HandS.SetFor
import HandS.Strs
import HandS.ListItems
import KE.KDictZip
import KE.KNestM
import KE.KLam
import PySem.Challenge.RW_sparebay_k31_webs
set_option Elab.async false
set_option maxRecDepth 100000
/-! A small language in plain Lean: data trees, slots, expressions, statements, and what they evaluate to. -/
namespace Sb
open PySem

/-- data as trees -/
inductive D where
  | non | bl (b : Bool) | int (i : Int) | str (x : Str)
  | tup (ds : List D) | lst (ds : List D) | dct (ks vs : List D) | obj (c : Nat) (fs : List D) | scr (ns : List Int)
  deriving Inhabited

/-- a name's slot: empty; read by all, changed by none; the only way to a thing that may be changed. The flag: it is a parameter that must not be bound anew -/
inductive Slot where
  | no | shr (p : Bool) (d : D) | own (p : Bool) (d : D)
  deriving Inhabited
abbrev Env := List Slot
def Slot.cont : Slot → Option D
  | .no => none
  | .shr _ d => some d
  | .own _ d => some d
def Slot.pin : Slot → Bool
  | .no => false
  | .shr p _ => p
  | .own p _ => p
def Slot.isOwn : Slot → Bool
  | .own _ _ => true
  | _ => false
/-- the most items of a list, a tuple, a text -/
abbrev lim : Nat := 100000

/-! ### == , order, sizes -/
mutual
def eqD : D → D → Bool
  | .non, .non => true
  | .bl a, .bl b => a == b
  | .bl a, .int b => (if a then 1 else 0) == b
  | .int a, .bl b => a == (if b then 1 else 0)
  | .int a, .int b => a == b
  | .str a, .str b => a == b
  | .tup a, .tup b => eqDs a b
  | .lst a, .lst b => eqDs a b
  | _, _ => false
def eqDs : List D → List D → Bool
  | [], [] => true
  | a :: as, b :: bs => eqD a b && eqDs as bs
  | _, _ => false
end
/-- none, bools, ints, texts, tuples and lists of these, at most so deep -/
def plain : Nat → D → Bool
  | _, .non => true
  | _, .bl _ => true
  | _, .int _ => true
  | _, .str _ => true
  | n + 1, .tup ds => ds.all (plain n)
  | n + 1, .lst ds => ds.all (plain n)
  | _, _ => false
/-- the same, texts written by plain code points, for == -/
def eqOk : Nat → D → Bool
  | _, .non => true
  | _, .bl _ => true
  | _, .int _ => true
  | _, .str x => PyData.canLay0 (.str x)
  | n + 1, .tup ds => ds.all (eqOk n)
  | n + 1, .lst ds => ds.all (eqOk n)
  | _, _ => false
mutual
def toPy : D → PyData
  | .non => .none
  | .bl b => .bool b
  | .int i => .int i
  | .str x => .str x
  | .tup ds => .tuple (toPys ds)
  | .lst ds => .list (toPys ds)
  | .dct _ _ => .dict []
  | .obj _ _ => .none
  | .scr _ => .none
def toPys : List D → List PyData
  | [] => []
  | d :: r => toPy d :: toPys r
end
/-- what repr can tell: empty dicts too; at most so deep -/
def shows : Nat → D → Bool
  | _, .non => true
  | _, .bl _ => true
  | _, .int i => decide (i.natAbs < 10 ^ 60)
  | _, .str x => decide (x.length ≤ 1000)
  | n + 1, .tup ds => decide (ds.length ≤ 1000) && ds.all (shows n)
  | n + 1, .lst ds => decide (ds.length ≤ 1000) && ds.all (shows n)
  | _ + 1, .dct [] [] => true
  | _, _ => false
def noLst : Nat → D → Bool
  | n + 1, .tup ds => ds.all (noLst n)
  | _, .lst _ => false
  | 0, .tup _ => false
  | _, _ => true
def noDct : Nat → D → Bool
  | n + 1, .tup ds => ds.all (noDct n)
  | n + 1, .lst ds => ds.all (noDct n)
  | 0, .lst _ => false
  | 0, .tup _ => false
  | _, .dct _ _ => false
  | _, _ => true
/-- t < u of tuples of ints -/
def intsOf : List D → Option (List Int)
  | [] => some []
  | .int i :: r => (intsOf r).map (i :: ·)
  | _ :: _ => none
def blsOf : List D → Option (List Bool)
  | [] => some []
  | .bl i :: r => (blsOf r).map (i :: ·)
  | _ :: _ => none
def pairsOf : List D → Option (List (Int × Int))
  | [] => some []
  | .tup [.int a, .int b] :: r => (pairsOf r).map ((a, b) :: ·)
  | _ :: _ => none
/-- a dict's keys: ints -/
def keyOf : D → Option Int
  | .int i => some i
  | _ => none
def getK : List D → List D → Int → Option D
  | .int k :: ks, v :: vs, i => if k = i then some v else getK ks vs i
  | _ :: ks, _ :: vs, i => getK ks vs i
  | _, _, _ => none
def hasK : List D → Int → Bool
  | .int k :: ks, i => k == i || hasK ks i
  | _ :: ks, i => hasK ks i
  | [], _ => false
def setK : List D → List D → Int → D → List D
  | .int k :: ks, v :: vs, i, d => if k = i then d :: vs else v :: setK ks vs i d
  | _ :: ks, v :: vs, i, d => v :: setK ks vs i d
  | _, vs, _, _ => vs
/-- d[i] = v: the keys, the values -/
def putK (ks vs : List D) (i : Int) (d : D) : List D × List D :=
  if hasK ks i then (ks, setK ks vs i d) else (ks ++ [.int i], vs ++ [d])
/-- sorted -/
def insI (x : Int) : List Int → List Int
  | [] => [x]
  | y :: r => if x ≤ y then x :: y :: r else y :: insI x r
def srtI : List Int → List Int
  | [] => []
  | x :: r => insI x (srtI r)
def leP (p q : Int × Int) : Bool := decide (p.1 < q.1) || (decide (p.1 = q.1) && decide (p.2 ≤ q.2))
def insP (x : Int × Int) : List (Int × Int) → List (Int × Int)
  | [] => [x]
  | y :: r => if leP x y then x :: y :: r else y :: insP x r
def srtP : List (Int × Int) → List (Int × Int)
  | [] => []
  | x :: r => insP x (srtP r)
def pD (p : Int × Int) : D := .tup [.int p.1, .int p.2]

/-! ### operations on data -/
inductive Ty where | int | bool | tuple | list | str
  deriving DecidableEq
inductive Op1 where
  | len | neg | not_ | int_ | str_ | repr_ | isi (ts : List Ty) | sorted | list | tuple | min_ | max_ | sum_ | all_ | any_ | sset | lset | rng1 | rev | upper
inductive Op2 where
  | add | sub | mul | fdiv | mod | pow | eq | ne | lt | le | gt | ge | inn | nin | idx | is_ | isnt | min2 | max2 | cnt | index | rng2 | zipl
def truthD : D → Option Bool
  | .non => some false
  | .bl b => some b
  | .int i => some (i != 0)
  | .str x => if x.length ≤ lim then some (x.length != 0) else none
  | .tup ds => some (!ds.isEmpty)
  | .lst ds => some (!ds.isEmpty)
  | .dct ks _ => some (!ks.isEmpty)
  | .obj _ _ => none
  | .scr _ => none
def isTy : D → Ty → Bool
  | .bl _, .bool => true
  | .bl _, .int => true
  | .int _, .int => true
  | .str _, .str => true
  | .tup _, .tuple => true
  | .lst _, .list => true
  | _, _ => false
def minI : List Int → Int
  | [] => 0
  | [x] => x
  | x :: r => min x (minI r)
def maxI : List Int → Int
  | [] => 0
  | [x] => x
  | x :: r => max x (maxI r)
def dedupI : List Int → List Int
  | [] => []
  | x :: r => if r.contains x then dedupI r else x :: dedupI r
def dedupP : List (Int × Int) → List (Int × Int)
  | [] => []
  | x :: r => if r.contains x then dedupP r else x :: dedupP r
/-- a new thing (true) or not, and the data -/
abbrev FD := Bool × D
def oInt (i : Int) : Option FD := some (false, .int i)
def oBl (b : Bool) : Option FD := some (false, .bl b)
def oStr (x : Str) : Option FD := some (false, .str x)
def oLst (ds : List D) : Option FD := some (true, .lst ds)
def oTup (ds : List D) : Option FD := some (false, .tup ds)
def itemsOf : D → Option (List D)
  | .tup ds => some ds
  | .lst ds => some ds
  | _ => none
def op1D : Op1 → D → Option FD
  | .len, d => match d with
    | .tup ds => oInt ds.length
    | .lst ds => oInt ds.length
    | .dct ks _ => oInt ks.length
    | .str x => if x.length ≤ lim then oInt x.length else none
    | _ => none
  | .neg, d => match d with | .int i => oInt (-i) | _ => none
  | .not_, d => match d with | .bl b => oBl (!b) | _ => none
  | .int_, d => match d with | .int i => oInt i | .bl b => oInt (if b then 1 else 0) | _ => none
  | .str_, d => match d with | .int i => if i.natAbs < 10 ^ 60 then oStr (toString i : String) else none | _ => none
  | .repr_, d => if shows 20 d && (noLst 20 d || noDct 20 d) && decide ((toPy d).shown.length ≤ lim) then oStr (toPy d).shown else none
  | .isi ts, d => match d with
    | .obj _ _ => none
    | .scr _ => none
    | d => oBl (ts.any (isTy d))
  | .sorted, d => match d with
    | .lst ds => match intsOf ds with
      | some ns => oLst ((srtI ns).map .int)
      | none => match pairsOf ds with
        | some ps => oLst ((srtP ps).map pD)
        | none => none
    | _ => none
  | .list, d => match itemsOf d with | some ds => oLst ds | none => none
  | .tuple, d => match itemsOf d with | some ds => oTup ds | none => none
  | .min_, d => match d with
    | .lst ds => match intsOf ds with | some ns => if ns = [] then none else oInt (minI ns) | none => none
    | _ => none
  | .max_, d => match d with
    | .lst ds => match intsOf ds with | some ns => if ns = [] then none else oInt (maxI ns) | none => none
    | _ => none
  | .sum_, d => match d with
    | .lst ds => match intsOf ds with | some ns => oInt ns.sum | none => none
    | _ => none
  | .all_, d => match d with
    | .lst ds => match blsOf ds with | some bs => oBl (bs.all id) | none => none
    | _ => none
  | .any_, d => match d with
    | .lst ds => match blsOf ds with | some bs => oBl (bs.any id) | none => none
    | _ => none
  | .sset, d => match itemsOf d with
    | some ds => match intsOf ds with
      | some ns => if decide (ns.length < 1000) && decide ((dedupI ns).length < 64) then oLst ((srtI (dedupI ns)).map .int) else none
      | none => match pairsOf ds with
        | some ps => if decide (ps.length < 64) && ps.all (fun p => decide (0 ≤ p.1) && decide (p.1 < 64) && decide (0 ≤ p.2) && decide (p.2 < 64)) then oLst ((srtP (dedupP ps)).map pD) else none
        | none => none
    | none => none
  | .lset, d => match itemsOf d with
    | some ds => match intsOf ds with
      | some ns => if ns.length < 1000 then oInt (dedupI ns).length else none
      | none => none
    | none => none
  | .rng1, d => match d with
    | .int n => if decide (-(2 ^ 62) ≤ n) && decide (n ≤ lim) then oLst ((List.range n.toNat).map fun (k : Nat) => .int k) else none
    | _ => none
  | .rev, d => match d with
    | .lst ds => oLst ds.reverse
    | .tup ds => oTup ds.reverse
    | _ => none
  | .upper, _ => none
def contD (neg : Bool) (x c : D) : Option FD := match c with
  | .tup ds => if eqOk 20 x && ds.all (eqOk 20) then oBl (neg != ds.any fun y => eqD y x) else none
  | .lst ds => if eqOk 20 x && ds.all (eqOk 20) then oBl (neg != ds.any fun y => eqD y x) else none
  | .dct ks _ => match x with | .int i => oBl (neg != hasK ks i) | _ => none
  | _ => none
def atD (ds : List D) (i : Int) : Option D := (L2.atI ds i)
def isNon : D → Bool
  | .non => true
  | _ => false
def small64 (i : Int) : Bool := decide (-(2 ^ 64) < i) && decide (i < 2 ^ 64)
def repD (ds : List D) (k : Int) : List D := (List.replicate k.toNat ds).flatten
def op2D : Op2 → D → D → Option FD
  | .add, a, b => match a, b with
    | .int i, .int j => oInt (i + j)
    | .lst x, .lst y => if x.length + y.length ≤ lim then oLst (x ++ y) else none
    | .tup x, .tup y => if x.length + y.length ≤ lim then oTup (x ++ y) else none
    | .str x, .str y => if x.length + y.length ≤ lim then oStr (x ++ y) else none
    | _, _ => none
  | .sub, a, b => match a, b with | .int i, .int j => oInt (i - j) | _, _ => none
  | .mul, a, b => match a, b with
    | .int i, .int j => if small64 i || small64 j then oInt (i * j) else none
    | .lst x, .int k => if decide (-(2 ^ 62) ≤ k) && decide (k < 2 ^ 62) && decide (x.length * k.toNat ≤ lim) then oLst (repD x k) else none
    | .tup x, .int k => if !x.isEmpty && decide (2 ≤ k) && decide (k ≤ 1000) && decide (x.length ≤ 1000) then oTup (repD x k) else none
    | _, _ => none
  | .fdiv, a, b => match a, b with | .int i, .int j => if decide (j ≠ 0) && decide (j.natAbs < 1073741824) then oInt (i.fdiv j) else none | _, _ => none
  | .mod, a, b => match a, b with | .int i, .int j => if j ≠ 0 then oInt (i.fmod j) else none | _, _ => none
  | .pow, a, b => match a, b with | .int i, .int j => if decide (0 ≤ j) && decide (j ≤ 1000) && decide (i.natAbs < 2 ^ 64) then oInt (i ^ j.toNat) else none | _, _ => none
  | .eq, a, b => if eqOk 20 a && eqOk 20 b then oBl (eqD a b) else match a, b with | .str x, .str y => oBl (x == y) | _, _ => none
  | .ne, a, b => if eqOk 20 a && eqOk 20 b then oBl (!eqD a b) else match a, b with | .str x, .str y => oBl (!(x == y)) | _, _ => none
  | .lt, a, b => match a, b with
    | .int i, .int j => oBl (decide (i < j))
    | .tup x, .tup y => match intsOf x, intsOf y with | some m, some n => oBl (HT.lexLt m n) | _, _ => none
    | _, _ => none
  | .le, a, b => match a, b with
    | .int i, .int j => oBl (decide (i ≤ j))
    | _, _ => none
  | .gt, a, b => match a, b with
    | .int i, .int j => oBl (decide (j < i))
    | _, _ => none
  | .ge, a, b => match a, b with
    | .int i, .int j => oBl (decide (j ≤ i))
    | .tup x, .tup y => match intsOf x, intsOf y with | some m, some n => oBl (!HT.lexLt m n) | _, _ => none
    | _, _ => none
  | .inn, a, b => contD false a b
  | .nin, a, b => contD true a b
  | .idx, a, b => match a, b with
    | .tup ds, .int i => (atD ds i).map fun d => (false, d)
    | .lst ds, .int i => (atD ds i).map fun d => (false, d)
    | .str x, .int i => if x.length ≤ lim then (L2.atI x.cps.toList i).map fun c => (false, .str ⟨#[c]⟩) else none
    | .dct ks vs, .int i => (getK ks vs i).map fun d => (false, d)
    | _, _ => none
  | .is_, a, b => match b with
    | .non => oBl (isNon a)
    | .bl c => match a with | .bl d => oBl (c == d) | _ => none
    | _ => none
  | .isnt, a, b => match b with
    | .non => oBl (!isNon a)
    | .bl c => match a with | .bl d => oBl (!(c == d)) | _ => none
    | _ => none
  | .min2, a, b => match a, b with | .int i, .int j => oInt (if j < i then j else i) | _, _ => none
  | .max2, a, b => match a, b with | .int i, .int j => oInt (if j > i then j else i) | _, _ => none
  | .cnt, a, b => match a, b with
    | .tup ds, .int i => match intsOf ds with | some ns => oInt (ns.count i) | none => none
    | .lst ds, .int i => match intsOf ds with | some ns => oInt (ns.count i) | none => none
    | _, _ => none
  | .index, a, b => match a, b with
    | .tup ds, .int i => match intsOf ds with | some ns => if i ∈ ns then oInt (ns.idxOf i) else none | none => none
    | .lst ds, .int i => match intsOf ds with | some ns => if i ∈ ns then oInt (ns.idxOf i) else none | none => none
    | _, _ => none
  | .rng2, a, b => match a, b with
    | .int m, .int n => if decide (-(lim : Int) ≤ m) && decide (m ≤ lim) && decide (-(lim : Int) ≤ n) && decide (n ≤ lim) then oLst ((List.range (n - m).toNat).map fun (k : Nat) => .int (m + k)) else none
    | _, _ => none
  | .zipl, a, b => match a, b with
    | .lst x, .lst y => oLst ((x.zip y).map fun p => .tup [p.1, p.2])
    | _, _ => none
/-- xs[lo:hi] -/
def cutD (ds : List D) (lo hi : Option Int) : List D := (ds.drop (HT.sIx ds.length 0 lo)).take (HT.sIx ds.length ds.length hi - HT.sIx ds.length 0 lo)
def cutS (x : Str) (lo hi : Option Int) : Str := ⟨((x.cps.toList.drop (HT.sIx x.length 0 lo)).take (HT.sIx x.length x.length hi - HT.sIx x.length 0 lo)).toArray⟩
def slD (a : D) (l h : Option Int) : Option FD := match a with
  | .tup ds => oTup (cutD ds l h)
  | .lst ds => oLst (cutD ds l h)
  | .scr ns => oLst (cutD (ns.map .int) l h)
  | _ => none

/-! ### results -/
inductive Knd where | shr | fr | pk (i : Nat)
abbrev KD := Knd × D
inductive R (α : Type) where
  | ok (a : α) (e : Env) | ex (c : Nat) (e : Env) | bad
def R.bnd {α β : Type} (r : R α) (f : α → Env → R β) : R β := match r with
  | .ok a e => f a e
  | .ex c e => .ex c e
  | .bad => .bad
/-- of a def -/
inductive FR where
  | ok (fr : Bool) (d : D) (ss : List Slot) | ex (c : Nat) (ss : List Slot) | bad
/-- of a statement -/
inductive RS where
  | nxt (e : Env) | ret (fr : Bool) (d : D) (e : Env) | cnt (e : Env) | ex (c : Nat) (e : Env) | bad
def R.toS {α : Type} (r : R α) (f : α → Env → RS) : RS := match r with
  | .ok a e => f a e
  | .ex c e => .ex c e
  | .bad => .bad
def RS.bnd (r : RS) (f : Env → RS) : RS := match r with
  | .nxt e => f e
  | r => r
def kFD (r : Option FD) (e : Env) : R KD := match r with
  | some (fr, d) => .ok (if fr then .fr else .shr, d) e
  | none => .bad
/-- a peeked slot is read when the operation is done -/
def stl (k : KD) (e : Env) : Option D := match k.1 with
  | .pk i => (e[i]?).bind Slot.cont
  | _ => some k.2
def emb (k : KD) : Option D := match k.1 with
  | .pk _ => none
  | _ => some k.2
def ap1 (o : Op1) (x : KD) (e : Env) : R KD := match stl x e with
  | some a => kFD (op1D o a) e
  | none => .bad
def ap2 (o : Op2) (x y : KD) (e : Env) : R KD := match stl x e, stl y e with
  | some a, some b => kFD (op2D o a b) e
  | _, _ => .bad
/-! ### the language -/
inductive Tg where | nm (i : Nat) | nms (is : List Nat)
mutual
inductive IE where
  | cst (d : D) | var (i : Nat) | pk (i : Nat)
  | op1 (o : Op1) (a : IE) | op2 (o : Op2) (a b : IE)
  | and2 (a b : IE) | or2 (a b : IE) | ite (c : IT) (a b : IE) | chain (o o' : Op2) (a b c : IE)
  | tup (es : List IE) | lst (es : List IE) | dnil | d1 (k v : IE)
  | sl (a : IE) (lo hi : IO)
  | call (f : Nat) (as : List IA)
  | pop (i : Nat) | popAt (i : Nat) (e : IE)
  | comp (it : Itr) (t : Tg) (own : List Nat) (ts : List IT) (e : IE)
  | comp2 (it : Itr) (t : Tg) (own own2 : List Nat) (ts : List IT) (it2 : Itr) (t2 : Tg) (ts2 : List IT) (e : IE)
  | dcomp (it : Itr) (t : Tg) (own : List Nat) (k v : IE)
  | lam (g : Nat) (hs : List (Nat × D)) (d : D) (e : IE)
  | fld (a : IE) (f : Nat)
  | bad
inductive IT where
  | val (e : IE) | not_ (t : IT) | and_ (a b : IT) | or_ (a b : IT) | ite (c a b : IT)
/-- a slice's part -/
inductive IO where
  | no | e (a : IE)
/-- an argument -/
inductive IA where
  | e (e : IE) | io (i : Nat)
/-- what is walked -/
inductive Itr where
  | seq (e : IE) | rng1 (a : IE) | rng2 (a b : IE) | enum (e : IE) | zip (a b : IE) | items (e : IE)
end
inductive IS where
  | asg (i : Nat) (e : IE) | asgN (is : List Nat) (e : IE) | par (is : List Nat) (es : List IE) | aug (i : Nat) (e : IE)
  | seti (i : Nat) (ix e : IE) | swp (i : Nat) (a b e1 e2 : IE) | setf (i f : Nat) (e : IE)
  | app (i : Nat) (e : IE) | exp (e : IE)
  | ifs (c : IT) (a b : List IS) | for_ (it : Itr) (t : Tg) (b : List IS) | whl (c : IT) (b : List IS)
  | retV (i : Nat) | ret (e : IE) | rse (c : Nat) | pas | bad

/-! ### slots -/
/-- a slot bound anew; a parameter that is lent must not be -/
def setS (i : Nat) (s : Slot) (e : Env) : Option Env := match e[i]? with
  | some t => if t.pin then none else some (e.set i s)
  | none => none
def setN : List Nat → List D → Env → Option Env
  | [], [], e => some e
  | i :: is, d :: ds, e => (setS i (.shr false d) e).bind (setN is ds)
  | _, _, _ => none
def asgT (t : Tg) (d : D) (e : Env) : Option Env := match t with
  | .nm i => setS i (.shr false d) e
  | .nms is => match d with | .tup ds => setN is ds e | _ => none
/-- what is read and handed on can not be changed any more -/
def frzS (i : Nat) (e : Env) : R KD := match e[i]? with
  | some (.shr _ d) => .ok (.shr, d) e
  | some (.own p d) => .ok (.shr, d) (e.set i (.shr p d))
  | _ => .bad
def wipe1 (i : Nat) (e : Env) : Option Env := match e[i]? with
  | some .no => some e
  | some (.shr _ _) => some (e.set i .no)
  | _ => none
def wipeE : List Nat → Env → Option Env
  | [], e => some e
  | i :: is, e => (wipeE is e).bind (wipe1 i)
/-- behind a block: its names' slots as they were -/
def backE : List Nat → Env → Env → Env
  | [], _, e => e
  | i :: is, e0, e => match e0[i]? with
    | some s => (backE is e0 e).set i s
    | none => backE is e0 e
inductive AV where | val (d : D) | io (i : Nat)
def slotOf (a : AV) (e : Env) : Option Slot := match a with
  | .val d => some (.shr false d)
  | .io i => match e[i]? with
    | some (.shr _ d) => some (.shr false d)
    | some (.own _ d) => some (.own true d)
    | _ => none
def slotsOf : List AV → Env → Option (List Slot)
  | [], _ => some []
  | a :: as, e => match slotOf a e, slotsOf as e with
    | some s, some ss => some (s :: ss)
    | _, _ => none
/-- what a lent thing is behind the call -/
def b1 (t s : Slot) : Slot := match t, s with
  | .own p _, .own _ d => .own p d
  | .own p _, .shr _ d => .shr p d
  | t, _ => t
def back1 (a : AV) (s : Slot) (e : Env) : Env := match a with
  | .val _ => e
  | .io i => match e[i]? with
    | some t => e.set i (b1 t s)
    | none => e
def putBack : List AV → List Slot → Env → Env
  | a :: as, s :: ss, e => putBack as ss (back1 a s e)
  | _, _, e => e
def iosOf : List AV → List Nat
  | [] => []
  | .io i :: r => i :: iosOf r
  | _ :: r => iosOf r
abbrev Cal := Nat → List Slot → FR
def doCall (C : Cal) (f : Nat) (as : List AV) (e : Env) : R KD :=
  if (iosOf as).Nodup then match slotsOf as e with
    | some ss => match C f ss with
      | .ok fr d ss' => .ok (if fr then .fr else .shr, d) (putBack as ss' e)
      | .ex c ss' => .ex c (putBack as ss' e)
      | .bad => .bad
    | none => .bad
  else .bad

/-! ### loops over data -/
def loopC (f : D → Env → R (Option D)) : List D → Env → R (List D)
  | [], e => .ok [] e
  | x :: xs, e => (f x e).bnd fun o e1 => (loopC f xs e1).bnd fun r e2 => .ok (match o with | some d => d :: r | none => r) e2
def loopCC (f : D → Env → R (List D)) : List D → Env → R (List D)
  | [], e => .ok [] e
  | x :: xs, e => (f x e).bnd fun o e1 => (loopCC f xs e1).bnd fun r e2 => .ok (o ++ r) e2
def loopD (f : D → Env → R (Int × D)) : List D → Env → List D × List D → R (List D × List D)
  | [], e, a => .ok a e
  | x :: xs, e, a => (f x e).bnd fun p e1 => loopD f xs e1 (putK a.1 a.2 p.1 p.2)
def loopF (f : D → Env → RS) : List D → Env → RS
  | [], e => .nxt e
  | x :: xs, e => match f x e with
    | .nxt e1 => loopF f xs e1
    | .cnt e1 => loopF f xs e1
    | r => r
def loopW (c : Env → R Bool) (b : Env → RS) : Nat → Env → RS
  | 0, _ => .bad
  | n + 1, e => (c e).toS fun k e1 => if k then match b e1 with
      | .nxt e2 => loopW c b n e2
      | .cnt e2 => loopW c b n e2
      | r => r
    else .nxt e1
/-- nothing may be raised within a comprehension -/
def R.calm {α : Type} (r : R α) : R α := match r with
  | .ex _ _ => .bad
  | r => r
def optE {α : Type} (o : Option α) (e : Env) : R α := match o with
  | some a => .ok a e
  | none => .bad
def optEnv (o : Option Env) (f : Env → R α) : R α := match o with
  | some e => f e
  | none => .bad
/-- within a block: its own names' slots empty at first, as they were behind it -/
def inB {α : Type} (own : List Nat) (f : Env → R α) (s : Env) : R α := optEnv (wipeE own s) fun s0 => (f s0).bnd fun o s4 => .ok o (backE own s s4)
def enumFrom : Nat → List D → List D
  | _, [] => []
  | n, d :: ds => .tup [.int n, d] :: enumFrom (n + 1) ds
def zipD : List D → List D → List D
  | a :: as, b :: bs => .tup [a, b] :: zipD as bs
  | _, _ => []
/-- which handler takes class c: sub c h -/
def handle (sub : Nat → Nat → Bool) (c : Nat) : List (Nat × D) → Option D
  | [] => none
  | (h, d) :: r => if sub h h then if sub c h then some d else handle sub c r else none

section
variable (C : Cal) (sub : Nat → Nat → Bool)
mutual
def evE : IE → Env → R KD
  | .cst d, e => .ok (.shr, d) e
  | .var i, e => frzS i e
  | .pk i, e => match e[i]? with
    | some s => match s.cont with
      | some d => .ok (.pk i, d) e
      | none => .bad
    | none => .bad
  | .op1 o a, e => (evE a e).bnd (ap1 o)
  | .op2 o a b, e => (evE a e).bnd fun x e1 => (evE b e1).bnd fun y e2 => ap2 o x y e2
  | .and2 a b, e => (evE a e).bnd fun x e1 => match x with
    | (.shr, .bl true) => evE b e1
    | (.shr, .bl false) => .ok (.shr, .bl false) e1
    | _ => .bad
  | .or2 a b, e => (evE a e).bnd fun x e1 => match x with
    | (.shr, .bl true) => .ok (.shr, .bl true) e1
    | (.shr, .bl false) => evE b e1
    | _ => .bad
  | .ite c a b, e => (evT c e).bnd fun k e1 => if k then evE a e1 else evE b e1
  | .chain o o' a b c, e => (evE a e).bnd fun x e1 => (evE b e1).bnd fun y e2 => (ap2 o x y e2).bnd fun r e3 => match r with
    | (.shr, .bl true) => (evE c e3).bnd fun z e4 => ap2 o' y z e4
    | (.shr, .bl false) => .ok (.shr, .bl false) e3
    | _ => .bad
  | .tup es, e => (evEs es e).bnd fun ds e1 => .ok (.shr, .tup ds) e1
  | .lst es, e => (evEs es e).bnd fun ds e1 => .ok (.fr, .lst ds) e1
  | .dnil, e => .ok (.fr, .dct [] []) e
  | .d1 k v, e => (evE k e).bnd fun x e1 => (evE v e1).bnd fun y e2 => match emb x, emb y with
    | some (.int i), some d => .ok (.fr, .dct [.int i] [d]) e2
    | _, _ => .bad
  | .sl a lo hi, e => (evE a e).bnd fun x e1 => (evO lo e1).bnd fun l e2 => (evO hi e2).bnd fun h e3 => match stl x e3 with
    | some d => kFD (slD d l h) e3
    | none => .bad
  | .call f as, e => (evAs as e).bnd fun vs e1 => doCall C f vs e1
  | .pop i, e => match e[i]? with
    | some (.own p (.lst ds)) => match ds.getLast? with
      | some d => .ok (.shr, d) (e.set i (.own p (.lst ds.dropLast)))
      | none => .bad
    | _ => .bad
  | .popAt i k, e => match e[i]? with
    | some (.own _ (.lst _)) => (evE k e).bnd fun x e1 => match stl x e1 with
      | some (.int j) => match e1[i]? with
        | some (.own p (.lst ds)) => match L2.ixN ds.length j with
          | some n => match ds[n]? with
            | some d => if ds.length ≤ lim then .ok (.shr, d) (e1.set i (.own p (.lst (ds.eraseIdx n)))) else .bad
            | none => .bad
          | none => .bad
        | _ => .bad
      | _ => .bad
    | _ => .bad
  | .comp it t own ts el, e => (evI it e).bnd fun ds e1 => if ds.length ≤ lim then
      (loopC (fun x s => inB own (fun s0 => optEnv (asgT t x s0) fun s1 => (evTs ts s1).bnd fun k s2 => if k then (evE el s2).bnd fun y s3 => (optE (emb y) s3).bnd fun d s4 => .ok (some d) s4 else .ok none s2) s) ds e1).calm.bnd
        fun r e2 => .ok (.fr, .lst r) e2
    else .bad
  | .comp2 it t own own2 ts it2 t2 ts2 el, e => (evI it e).bnd fun ds e1 => if ds.length ≤ 300 then
      (loopCC (fun x s => inB own (fun s0 => optEnv (asgT t x s0) fun s1 => (evTs ts s1).bnd fun k s2 => if k then
          (evI it2 s2).bnd fun ds2 s3 => if ds2.length ≤ 300 then
            loopC (fun x2 q => inB own2 (fun q0 => optEnv (asgT t2 x2 q0) fun q1 => (evTs ts2 q1).bnd fun k2 q2 => if k2 then (evE el q2).bnd fun y q3 => (optE (emb y) q3).bnd fun d q4 => .ok (some d) q4 else .ok none q2) q) ds2 s3
          else .bad
        else .ok [] s2) s) ds e1).calm.bnd fun r e2 => .ok (.fr, .lst r) e2
    else .bad
  | .dcomp it t own k v, e => (evI it e).bnd fun ds e1 => if ds.length ≤ lim then
      (loopD (fun x s => inB own (fun s0 => optEnv (asgT t x s0) fun s1 => (evE k s1).bnd fun a s2 => (evE v s2).bnd fun b s3 => match emb a, emb b with
          | some (.int i), some d => .ok (i, d) s3
          | _, _ => .bad) s) ds e1 ([], [])).calm.bnd fun r e2 => .ok (.fr, .dct r.1 r.2) e2
    else .bad
  | .bad, _ => .bad
  | .lam _ hs d b, e => match evE b e with
    | .ok _ e1 => .ok (.shr, d) e1
    | .ex c e1 => if sub c c then match handle sub c hs with
      | some r => .ok (.shr, r) e1
      | none => .bad
      else .bad
    | .bad => .bad
  | .fld a f, e => (evE a e).bnd fun x e1 => match stl x e1 with
    | some (.obj _ fs) => match fs[f]? with
      | some d => .ok (.shr, d) e1
      | none => .bad
    | _ => .bad
def evT : IT → Env → R Bool
  | .val a, e => (evE a e).bnd fun x e1 => match stl x e1 with
    | some d => optE (truthD d) e1
    | none => .bad
  | .not_ t, e => (evT t e).bnd fun k e1 => .ok (!k) e1
  | .and_ a b, e => (evT a e).bnd fun k e1 => if k then evT b e1 else .ok false e1
  | .or_ a b, e => (evT a e).bnd fun k e1 => if k then .ok true e1 else evT b e1
  | .ite c a b, e => (evT c e).bnd fun k e1 => if k then evT a e1 else evT b e1
def evO : IO → Env → R (Option Int)
  | .no, e => .ok none e
  | .e a, e => (evE a e).bnd fun x e1 => match stl x e1 with
    | some (.int i) => .ok (some i) e1
    | _ => .bad
def evEs : List IE → Env → R (List D)
  | [], e => .ok [] e
  | a :: r, e => (evE a e).bnd fun x e1 => (optE (emb x) e1).bnd fun d e2 => (evEs r e2).bnd fun ds e3 => .ok (d :: ds) e3
def evAs : List IA → Env → R (List AV)
  | [], e => .ok [] e
  | a :: r, e => (evA a e).bnd fun x e1 => (evAs r e1).bnd fun xs e2 => .ok (x :: xs) e2
def evA : IA → Env → R AV
  | .e a, e => (evE a e).bnd fun x e1 => (optE (emb x) e1).bnd fun d e2 => .ok (.val d) e2
  | .io i, e => match (e[i]?).bind Slot.cont with
    | some _ => .ok (.io i) e
    | none => .bad
def evTs : List IT → Env → R Bool
  | [], e => .ok true e
  | [t], e => evT t e
  | _, _ => .bad
def evI : Itr → Env → R (List D)
  | .seq a, e => (evE a e).bnd fun x e1 => (optE ((emb x).bind itemsOf) e1)
  | .rng1 a, e => (evE a e).bnd fun x e1 => match stl x e1 with
    | some (.int n) => if decide (-(2 ^ 62) ≤ n) && decide (n ≤ lim) then .ok ((List.range n.toNat).map fun (k : Nat) => .int k) e1 else .bad
    | _ => .bad
  | .rng2 a b, e => (evE a e).bnd fun x e1 => (evE b e1).bnd fun y e2 => match stl x e2, stl y e2 with
    | some (.int m), some (.int n) => if decide (-(lim : Int) ≤ m) && decide (m ≤ lim) && decide (-(lim : Int) ≤ n) && decide (n ≤ lim) then .ok ((List.range (n - m).toNat).map fun (k : Nat) => .int (m + k)) e2 else .bad
    | _, _ => .bad
  | .enum a, e => (evE a e).bnd fun x e1 => match emb x with
    | some (.lst ds) => .ok (enumFrom 0 ds) e1
    | _ => .bad
  | .zip a b, e => (evE a e).bnd fun x e1 => (evE b e1).bnd fun y e2 => match emb x, emb y with
    | some (.lst u), some (.lst v) => .ok (zipD u v) e2
    | some (.tup u), some (.tup v) => .ok (zipD u v) e2
    | _, _ => .bad
  | .items a, e => (evE a e).bnd fun x e1 => match x with
    | (.fr, .dct ks vs) => .ok (zipD ks vs) e1
    | _ => .bad
end
/-- several values for several names: new things stay new -/
def evPar : List IE → Env → R (List KD)
  | [], e => .ok [] e
  | a :: r, e => (evE C sub a e).bnd fun x e1 => (evPar r e1).bnd fun xs e2 => .ok (x :: xs) e2
def kSlot (k : KD) : Option Slot := match k.1 with
  | .shr => some (.shr false k.2)
  | .fr => some (.own false k.2)
  | .pk _ => none
def setP : List Nat → List KD → Env → Option Env
  | [], [], e => some e
  | i :: is, k :: ks, e => match kSlot k with
    | some s => (setS i s e).bind (setP is ks)
    | none => none
  | _, _, _ => none
def optS (o : Option Env) : RS := match o with
  | some e => .nxt e
  | none => .bad
/-- x[i] = v -/
def setiE (i : Nat) (ix : D) (v : D) (e : Env) : Option Env := match e[i]?, ix with
  | some (.own p (.lst ds)), .int j => (L2.ixN ds.length j).map fun n => e.set i (.own p (.lst (ds.set n v)))
  | some (.own p (.dct ks vs)), .int j => if ks.length < lim then some (e.set i (.own p (.dct (putK ks vs j v).1 (putK ks vs j v).2))) else none
  | _, _ => none
variable (wf : Nat)
mutual
def evS : IS → Env → RS
  | .asg i a, e => (evE C sub a e).toS fun x e1 => match kSlot x with
    | some s => optS (setS i s e1)
    | none => .bad
  | .asgN is a, e => (evE C sub a e).toS fun x e1 => match emb x with
    | some d => optS (asgT (.nms is) d e1)
    | none => .bad
  | .par is es, e => if is.Nodup then (evPar C sub es e).toS fun ks e1 => optS (setP is ks e1) else .bad
  | .aug i a, e => match (e[i]?).bind Slot.cont with
    | some (.int x) => (evE C sub a e).toS fun y e1 => match stl y e1 with
      | some (.int z) => optS (setS i (.shr false (.int (x + z))) e1)
      | _ => .bad
    | _ => .bad
  | .seti i ix a, e => (evE C sub a e).toS fun y e1 => match emb y, (e1[i]?).bind Slot.cont with
    | some d, some _ => (evE C sub ix e1).toS fun k e2 => match stl k e2 with
      | some j => optS (setiE i j d e2)
      | none => .bad
    | _, _ => .bad
  | .swp i a b e1 e2, e => (evEs C sub [e1, e2] e).toS fun ds s1 => match ds with
    | [d1, d2] => (evE C sub a s1).toS fun k s2 => match stl k s2 with
      | some j => match setiE i j d1 s2 with
        | some s3 => (evE C sub b s3).toS fun k2 s4 => match stl k2 s4 with
          | some j2 => optS (setiE i j2 d2 s4)
          | none => .bad
        | none => .bad
      | none => .bad
    | _ => .bad
  | .setf i f a, e => (evE C sub a e).toS fun y e1 => match emb y, e1[i]? with
    | some d, some (.own p (.obj c fs)) => if f < fs.length then .nxt (e1.set i (.own p (.obj c (fs.set f d)))) else if f = fs.length then .nxt (e1.set i (.own p (.obj c (fs ++ [d])))) else .bad
    | _, _ => .bad
  | .app i a, e => match e[i]? with
    | some (.own _ (.lst _)) => (evE C sub a e).toS fun y e1 => match emb y, e1[i]? with
      | some d, some (.own p (.lst ds)) => if ds.length < lim then .nxt (e1.set i (.own p (.lst (ds ++ [d])))) else .bad
      | _, _ => .bad
    | _ => .bad
  | .exp a, e => (evE C sub a e).toS fun _ e1 => .nxt e1
  | .ifs c a b, e => (evT C sub c e).toS fun k e1 => if k then evSs a e1 else evSs b e1
  | .for_ it t b, e => (evI C sub it e).toS fun ds e1 => loopF (fun x s => match asgT t x s with
    | some s1 => evSs b s1
    | none => .bad) ds e1
  | .whl c b, e => loopW (evT C sub c) (evSs b) wf e
  | .retV i, e => match e[i]? with
    | some (.shr _ d) => .ret false d e
    | some (.own false d) => .ret true d (e.set i .no)
    | some (.own true d) => .ret false d (e.set i (.shr true d))
    | _ => .bad
  | .ret a, e => (evE C sub a e).toS fun x e1 => match x with
    | (.shr, d) => .ret false d e1
    | (.fr, d) => .ret true d e1
    | _ => .bad
  | .rse c, e => .ex c e
  | .pas, e => .nxt e
  | .bad, _ => .bad
def evSs : List IS → Env → RS
  | [], e => .nxt e
  | s :: r, e => (evS s e).bnd (evSs r)
end
/-- a def: how many parameters, how many names, its body -/
structure Def where
  np : Nat
  nn : Nat
  body : List IS
def bk : List Slot → Env → List Slot
  | s :: ss, t :: e => (if s.isOwn then t else s) :: bk ss e
  | _, _ => []
def runDef (df : Def) (ss : List Slot) : FR :=
  if ss.length = df.np then match evSs C sub wf df.body (ss ++ List.replicate (df.nn - df.np) .no) with
    | .nxt e => .ok false .non (bk ss e)
    | .ret fr d e => .ok fr d (bk ss e)
    | .ex c e => .ex c (bk ss e)
    | .cnt _ => .bad
    | .bad => .bad
  else .bad
end
/-- the defs by number; calls nested at most n deep -/
def callD (T : Nat → Option Def) (sub : Nat → Nat → Bool) (wf : Nat) : Nat → Cal
  | 0, _, _ => .bad
  | n + 1, f, ss => match T f with
    | some df => runDef (callD T sub wf n) sub wf df ss
    | none => .bad
end Sb

set_option Elab.async false
set_option linter.all false
set_option maxRecDepth 100000
/-! What a slot's data mean of an abstract heap; what a step keeps. -/
namespace Sb
open PySem L2

/-- what the written part is for the language: classes' places, their fields, the tables of code objects -/
structure Lk where
  K : PySem.W.Frag
  T : List (Addr × Str)
  ca : Nat → Addr
  fn : Nat → List Str
abbrev AP := Addr → Prop
abbrev OS := List (List Addr)

def keysD : List D → List (Key × V) → Prop
  | [], [] => True
  | .int i :: ks, (k, _) :: kvs => k = Sum.inl i ∧ keysD ks kvs
  | _, _ => False
mutual
/-- d is what v means; nothing of it that could be changed lies in B -/
def Rep (L : Lk) (B : AP) (H : Hp) : D → V → Prop
  | .non, v => v = .non
  | .bl b, v => v = .bl b
  | .int i, v => v = .int i
  | .str x, v => v = .str x
  | .tup ds, v => ∃ p vs, v = .ref p ∧ SqT L.K H p vs ∧ Reps L B H ds vs
  | .lst ds, v => ∃ p vs, v = .ref p ∧ ¬ B p ∧ H p = some (.lst vs) ∧ Reps L B H ds vs
  | .dct ks us, v => ∃ p kvs, v = .ref p ∧ ¬ B p ∧ H p = some (.dK kvs) ∧ keysD ks kvs ∧ (kvs.map (·.1)).Nodup ∧ Reps L B H us (kvs.map (·.2))
  | .obj c fs, v => ∃ p dx vs, v = .ref p ∧ ¬ B p ∧ H p = some (.ins (L.ca c) dx ((L.fn c).zip vs)) ∧ Reps L B H fs vs ∧ vs.length ≤ (L.fn c).length
  | .scr ns, v => ∃ p o, v = .ref p ∧ (H p = some (.frz o (.lst (ns.map V.int))) ∨ (∃ (o : Obj) (its : Array Value) (n : Nat), L.K.lookup p = some o ∧ o.cls = .type "list" ∧ o.dict = none ∧ o.data = .seq its n ∧ its.size ≤ sizeLine ∧ Vals (ns.map V.int) its.toList))
def Reps (L : Lk) (B : AP) (H : Hp) : List D → List V → Prop
  | [], [] => True
  | d :: ds, v :: vs => Rep L B H d v ∧ Reps L B H ds vs
  | _, _ => False
end
/-- the thing at p, which may be changed, holds d -/
def OwnRep (L : Lk) (B : AP) (H : Hp) (d : D) (p : Addr) : Prop := match d with
  | .lst ds => ∃ vs, H p = some (.lst vs) ∧ Reps L B H ds vs
  | .dct ks us => ∃ kvs, H p = some (.dK kvs) ∧ keysD ks kvs ∧ (kvs.map (·.1)).Nodup ∧ Reps L B H us (kvs.map (·.2))
  | .obj c fs => ∃ dx vs, H p = some (.ins (L.ca c) dx ((L.fn c).zip vs)) ∧ Reps L B H fs vs ∧ vs.length ≤ (L.fn c).length
  | _ => False
/-- d is what v means; v itself may be changed by others, what is in it not -/
def Root (L : Lk) (B : AP) (H : Hp) (d : D) (v : V) : Prop := match d with
  | .lst ds => ∃ p vs, v = .ref p ∧ H p = some (.lst vs) ∧ Reps L B H ds vs
  | .dct ks us => ∃ p kvs, v = .ref p ∧ H p = some (.dK kvs) ∧ keysD ks kvs ∧ (kvs.map (·.1)).Nodup ∧ Reps L B H us (kvs.map (·.2))
  | .obj c fs => ∃ p dx vs, v = .ref p ∧ H p = some (.ins (L.ca c) dx ((L.fn c).zip vs)) ∧ Reps L B H fs vs ∧ vs.length ≤ (L.fn c).length
  | d => Rep L B H d v
/-- all but the things in O stand as they stood -/
structure Pr (O : AP) (H H' : Hp) : Prop where
  keep : ∀ a o, H a = some o → (∀ ps, o ≠ .tbl ps) → ¬ O a → H' a = some o
  tups : ∀ a xs, H a = some (.tup xs) → H' a = some (.tup xs)
  frzs : ∀ a o u, H a = some (.frz o u) → H' a = some (.frz o u)
  dom : ∀ a, H' a = none → H a = none
def Ex (H H' : Hp) : Prop := ∀ a o, H a = some o → H' a = some o
theorem Ex.refl (H : Hp) : Ex H H := fun _ _ h => h
theorem Ex.trans {H H1 H2 : Hp} (a : Ex H H1) (b : Ex H1 H2) : Ex H H2 := fun x o h => b x o (a x o h)
theorem Ex.new {H : Hp} {p : Addr} {o : HO} (h : H p = none) : Ex H (upd H p o) := fun a u e => by
  rw [upd_ne (ne_of_none e h)]; exact e
theorem Ex.free {H H' : Hp} {p : Addr} (e : Ex H H') (h : H' p = none) : H p = none := by
  cases q : H p with
  | none => rfl
  | some o => rw [e p o q] at h; cases h
theorem Ex.pr {O : AP} {H H' : Hp} (e : Ex H H') : Pr O H H' :=
  ⟨fun a o h _ _ => e a o h, fun a xs h => e a _ h, fun a o u h => e a _ h, fun a h => e.free h⟩
theorem Pr.refl {O : AP} (H : Hp) : Pr O H H := (Ex.refl H).pr
theorem Pr.trans {O O1 : AP} {H H1 H2 : Hp} (a : Pr O H H1) (b : Pr O1 H1 H2) (s : ∀ x, O1 x → O x ∨ H x = none) : Pr O H H2 :=
  ⟨fun x o h n hx => b.keep x o (a.keep x o h n hx) n (fun z => by
      rcases s x z with z | z
      · exact hx z
      · rw [h] at z; cases z), fun x xs h => b.tups x xs (a.tups x xs h), fun x o u h => b.frzs x o u (a.frzs x o u h), fun x h => a.dom x (b.dom x h)⟩
theorem Pr.mono {O O1 : AP} {H H1 : Hp} (a : Pr O H H1) (s : ∀ x, O x → O1 x) : Pr O1 H H1 :=
  ⟨fun x o h n hx => a.keep x o h n fun z => hx (s x z), a.tups, a.frzs, a.dom⟩
theorem Pr.rd {O : AP} {H H1 : Hp} (a : Pr O H H1) {p : Addr} {u : HO} (h : Rd H p u) (hp : ¬ O p) (n : ∀ ps, u ≠ .tbl ps) : Rd H1 p u := by
  rcases h with h | ⟨o, h⟩
  · exact .inl (a.keep p u h n hp)
  · exact .inr ⟨o, a.frzs p o u h⟩
theorem Pr.sqT {O : AP} {H H1 : Hp} {K : PySem.W.Frag} (a : Pr O H H1) {p : Addr} {xs : List V} (h : SqT K H p xs) : SqT K H1 p xs := by
  rcases h with (h | ⟨o, h⟩) | h
  · exact .inl (.inl (a.tups p xs h))
  · exact .inl (.inr ⟨o, a.frzs p o _ h⟩)
  · exact .inr h

section
variable {L : Lk} {B B' O : AP} {H H' : Hp}
mutual
theorem Rep.keep (k : Pr O H H') (hO : ∀ a, O a → B a) : ∀ {d : D} {v : V}, Rep L B H d v → Rep L B H' d v
  | .non, v, h => by simpa only [Rep] using h
  | .bl _, v, h => by simpa only [Rep] using h
  | .int _, v, h => by simpa only [Rep] using h
  | .str _, v, h => by simpa only [Rep] using h
  | .tup ds, v, h => by
    simp only [Rep] at h ⊢
    obtain ⟨p, vs, e, hs, r⟩ := h
    exact ⟨p, vs, e, k.sqT hs, Reps.keep k hO r⟩
  | .lst ds, v, h => by
    simp only [Rep] at h ⊢
    obtain ⟨p, vs, e, hb, hs, r⟩ := h
    exact ⟨p, vs, e, hb, k.keep p _ hs (fun ps => by intro z; cases z) (fun z => hb (hO p z)), Reps.keep k hO r⟩
  | .dct ks us, v, h => by
    simp only [Rep] at h ⊢
    obtain ⟨p, kvs, e, hb, hs, hk, nd, r⟩ := h
    exact ⟨p, kvs, e, hb, k.keep p _ hs (fun ps => by intro z; cases z) (fun z => hb (hO p z)), hk, nd, Reps.keep k hO r⟩
  | .obj c fs, v, h => by
    simp only [Rep] at h ⊢
    obtain ⟨p, dx, vs, e, hb, hs, r, hl⟩ := h
    exact ⟨p, dx, vs, e, hb, k.keep p _ hs (fun ps => by intro z; cases z) (fun z => hb (hO p z)), Reps.keep k hO r, hl⟩
  | .scr ns, v, h => by
    simp only [Rep] at h ⊢
    obtain ⟨p, o, e, hs⟩ := h
    exact ⟨p, o, e, hs.elim (fun z => .inl (k.frzs p o _ z)) .inr⟩
theorem Reps.keep (k : Pr O H H') (hO : ∀ a, O a → B a) : ∀ {ds : List D} {vs : List V}, Reps L B H ds vs → Reps L B H' ds vs
  | [], [], h => by simp only [Reps]
  | d :: ds, v :: vs, h => by
    simp only [Reps] at h ⊢
    exact ⟨Rep.keep k hO h.1, Reps.keep k hO h.2⟩
  | [], _ :: _, h => by simp only [Reps] at h
  | _ :: _, [], h => by simp only [Reps] at h
end
mutual
theorem Rep.less (hB : ∀ a, B' a → B a) : ∀ {d : D} {v : V}, Rep L B H d v → Rep L B' H d v
  | .non, v, h => by simpa only [Rep] using h
  | .bl _, v, h => by simpa only [Rep] using h
  | .int _, v, h => by simpa only [Rep] using h
  | .str _, v, h => by simpa only [Rep] using h
  | .tup ds, v, h => by
    simp only [Rep] at h ⊢
    obtain ⟨p, vs, e, hs, r⟩ := h
    exact ⟨p, vs, e, hs, Reps.less hB r⟩
  | .lst ds, v, h => by
    simp only [Rep] at h ⊢
    obtain ⟨p, vs, e, hb, hs, r⟩ := h
    exact ⟨p, vs, e, fun z => hb (hB p z), hs, Reps.less hB r⟩
  | .dct ks us, v, h => by
    simp only [Rep] at h ⊢
    obtain ⟨p, kvs, e, hb, hs, hk, nd, r⟩ := h
    exact ⟨p, kvs, e, fun z => hb (hB p z), hs, hk, nd, Reps.less hB r⟩
  | .obj c fs, v, h => by
    simp only [Rep] at h ⊢
    obtain ⟨p, dx, vs, e, hb, hs, r, hl⟩ := h
    exact ⟨p, dx, vs, e, fun z => hb (hB p z), hs, Reps.less hB r, hl⟩
  | .scr ns, v, h => by simpa only [Rep] using h
theorem Reps.less (hB : ∀ a, B' a → B a) : ∀ {ds : List D} {vs : List V}, Reps L B H ds vs → Reps L B' H ds vs
  | [], [], h => by simp only [Reps]
  | d :: ds, v :: vs, h => by
    simp only [Reps] at h ⊢
    exact ⟨Rep.less hB h.1, Reps.less hB h.2⟩
  | [], _ :: _, h => by simp only [Reps] at h
  | _ :: _, [], h => by simp only [Reps] at h
end
mutual
/-- what is not there yet is no part of it -/
theorem Rep.more (hB : ∀ a, B' a → B a ∨ H a = none) : ∀ {d : D} {v : V}, Rep L B H d v → Rep L B' H d v
  | .non, v, h => by simpa only [Rep] using h
  | .bl _, v, h => by simpa only [Rep] using h
  | .int _, v, h => by simpa only [Rep] using h
  | .str _, v, h => by simpa only [Rep] using h
  | .tup ds, v, h => by
    simp only [Rep] at h ⊢
    obtain ⟨p, vs, e, hs, r⟩ := h
    exact ⟨p, vs, e, hs, Reps.more hB r⟩
  | .lst ds, v, h => by
    simp only [Rep] at h ⊢
    obtain ⟨p, vs, e, hb, hs, r⟩ := h
    refine ⟨p, vs, e, fun z => ?_, hs, Reps.more hB r⟩
    rcases hB p z with z | z
    · exact hb z
    · rw [z] at hs; cases hs
  | .dct ks us, v, h => by
    simp only [Rep] at h ⊢
    obtain ⟨p, kvs, e, hb, hs, hk, nd, r⟩ := h
    refine ⟨p, kvs, e, fun z => ?_, hs, hk, nd, Reps.more hB r⟩
    rcases hB p z with z | z
    · exact hb z
    · rw [z] at hs; cases hs
  | .obj c fs, v, h => by
    simp only [Rep] at h ⊢
    obtain ⟨p, dx, vs, e, hb, hs, r, hl⟩ := h
    refine ⟨p, dx, vs, e, fun z => ?_, hs, Reps.more hB r, hl⟩
    rcases hB p z with z | z
    · exact hb z
    · rw [z] at hs; cases hs
  | .scr ns, v, h => by simpa only [Rep] using h
theorem Reps.more (hB : ∀ a, B' a → B a ∨ H a = none) : ∀ {ds : List D} {vs : List V}, Reps L B H ds vs → Reps L B' H ds vs
  | [], [], h => by simp only [Reps]
  | d :: ds, v :: vs, h => by
    simp only [Reps] at h ⊢
    exact ⟨Rep.more hB h.1, Reps.more hB h.2⟩
  | [], _ :: _, h => by simp only [Reps] at h
  | _ :: _, [], h => by simp only [Reps] at h
end
theorem Rep.root {d : D} {v : V} (h : Rep L B H d v) : Root L B H d v := by
  cases d with
  | lst ds => simp only [Rep, Root] at h ⊢; obtain ⟨p, vs, e, _, hs, r⟩ := h; exact ⟨p, vs, e, hs, r⟩
  | dct ks us => simp only [Rep, Root] at h ⊢; obtain ⟨p, kvs, e, _, r⟩ := h; exact ⟨p, kvs, e, r⟩
  | obj c fs => simp only [Rep, Root] at h ⊢; obtain ⟨p, dx, vs, e, _, r⟩ := h; exact ⟨p, dx, vs, e, r⟩
  | non => exact h
  | bl _ => exact h
  | int _ => exact h
  | str _ => exact h
  | tup _ => exact h
  | scr _ => exact h
theorem OwnRep.root {d : D} {p : Addr} (h : OwnRep L B H d p) : Root L B H d (.ref p) := by
  cases d with
  | lst ds => obtain ⟨vs, e, r⟩ := h; exact ⟨p, vs, rfl, e, r⟩
  | dct ks us => obtain ⟨kvs, e, r⟩ := h; exact ⟨p, kvs, rfl, e, r⟩
  | obj c fs => obtain ⟨dx, vs, e, r⟩ := h; exact ⟨p, dx, vs, rfl, e, r⟩
  | non => exact h.elim
  | bl _ => exact h.elim
  | int _ => exact h.elim
  | str _ => exact h.elim
  | tup _ => exact h.elim
  | scr _ => exact h.elim
theorem OwnRep.rep {d : D} {p : Addr} (h : OwnRep L B H d p) (hp : ¬ B p) : Rep L B H d (.ref p) := by
  cases d with
  | lst ds => simp only [Rep]; obtain ⟨vs, e, r⟩ := h; exact ⟨p, vs, rfl, hp, e, r⟩
  | dct ks us => simp only [Rep]; obtain ⟨kvs, e, r⟩ := h; exact ⟨p, kvs, rfl, hp, e, r⟩
  | obj c fs => simp only [Rep]; obtain ⟨dx, vs, e, r⟩ := h; exact ⟨p, dx, vs, rfl, hp, e, r⟩
  | non => exact h.elim
  | bl _ => exact h.elim
  | int _ => exact h.elim
  | str _ => exact h.elim
  | tup _ => exact h.elim
  | scr _ => exact h.elim
theorem OwnRep.keep (k : Pr O H H') (hO : ∀ a, O a → B a) {d : D} {p : Addr} (hp : ¬ O p) (h : OwnRep L B H d p) : OwnRep L B H' d p := by
  cases d with
  | lst ds => obtain ⟨vs, e, r⟩ := h; exact ⟨vs, k.keep p _ e (fun ps => by intro z; cases z) hp, Reps.keep k hO r⟩
  | dct ks us => obtain ⟨kvs, e, a, b, r⟩ := h; exact ⟨kvs, k.keep p _ e (fun ps => by intro z; cases z) hp, a, b, Reps.keep k hO r⟩
  | obj c fs => obtain ⟨dx, vs, e, r, l⟩ := h; exact ⟨dx, vs, k.keep p _ e (fun ps => by intro z; cases z) hp, Reps.keep k hO r, l⟩
  | non => exact h.elim
  | bl _ => exact h.elim
  | int _ => exact h.elim
  | str _ => exact h.elim
  | tup _ => exact h.elim
  | scr _ => exact h.elim
theorem OwnRep.more (hB : ∀ a, B' a → B a ∨ H a = none) {d : D} {p : Addr} (h : OwnRep L B H d p) : OwnRep L B' H d p := by
  cases d with
  | lst ds => obtain ⟨vs, e, r⟩ := h; exact ⟨vs, e, Reps.more hB r⟩
  | dct ks us => obtain ⟨kvs, e, a, b, r⟩ := h; exact ⟨kvs, e, a, b, Reps.more hB r⟩
  | obj c fs => obtain ⟨dx, vs, e, r, l⟩ := h; exact ⟨dx, vs, e, Reps.more hB r, l⟩
  | non => exact h.elim
  | bl _ => exact h.elim
  | int _ => exact h.elim
  | str _ => exact h.elim
  | tup _ => exact h.elim
  | scr _ => exact h.elim
theorem OwnRep.dom {d : D} {p : Addr} (h : OwnRep L B H d p) : ∃ o, H p = some o ∧ (∀ ps, o ≠ .tbl ps) ∧ (∀ xs, o ≠ .tup xs) ∧ ∀ ob u, o ≠ .frz ob u := by
  cases d with
  | lst ds => obtain ⟨vs, e, r⟩ := h; exact ⟨_, e, fun ps => (by intro z; cases z), fun ps => (by intro z; cases z), fun _ _ => (by intro z; cases z)⟩
  | dct ks us => obtain ⟨kvs, e, r⟩ := h; exact ⟨_, e, fun ps => (by intro z; cases z), fun ps => (by intro z; cases z), fun _ _ => (by intro z; cases z)⟩
  | obj c fs => obtain ⟨dx, vs, e, r⟩ := h; exact ⟨_, e, fun ps => (by intro z; cases z), fun ps => (by intro z; cases z), fun _ _ => (by intro z; cases z)⟩
  | non => exact h.elim
  | bl _ => exact h.elim
  | int _ => exact h.elim
  | str _ => exact h.elim
  | tup _ => exact h.elim
  | scr _ => exact h.elim
theorem Reps.len : ∀ {ds : List D} {vs : List V}, Reps L B H ds vs → ds.length = vs.length
  | [], [], _ => rfl
  | d :: ds, v :: vs, h => by simp only [Reps] at h; simp [Reps.len h.2]
  | [], _ :: _, h => by simp only [Reps] at h
  | _ :: _, [], h => by simp only [Reps] at h
theorem Reps.get : ∀ {ds : List D} {vs : List V} {i : Nat} {d : D}, Reps L B H ds vs → ds[i]? = some d → ∃ v, vs[i]? = some v ∧ Rep L B H d v
  | d :: ds, v :: vs, 0, x, h, e => by simp only [Reps] at h; simp at e; subst e; exact ⟨v, rfl, h.1⟩
  | d :: ds, v :: vs, i + 1, x, h, e => by
    simp only [Reps] at h
    obtain ⟨w, a, b⟩ := Reps.get (i := i) h.2 (by simpa using e)
    exact ⟨w, by simpa using a, b⟩
  | [], _, _, _, _, e => by simp at e
  | _ :: _, [], _, _, h, _ => by simp only [Reps] at h
theorem Reps.set : ∀ {ds : List D} {vs : List V} {d : D} {v : V} (i : Nat), Reps L B H ds vs → Rep L B H d v → Reps L B H (ds.set i d) (vs.set i v)
  | [], [], _, _, _, h, _ => by simpa using h
  | x :: ds, y :: vs, d, v, 0, h, r => by simp only [Reps, List.set_cons_zero] at h ⊢; exact ⟨r, h.2⟩
  | x :: ds, y :: vs, d, v, i + 1, h, r => by simp only [Reps, List.set_cons_succ] at h ⊢; exact ⟨h.1, Reps.set i h.2 r⟩
  | [], _ :: _, _, _, _, h, _ => by simp only [Reps] at h
  | _ :: _, [], _, _, _, h, _ => by simp only [Reps] at h
theorem Reps.app : ∀ {ds es : List D} {vs us : List V}, Reps L B H ds vs → Reps L B H es us → Reps L B H (ds ++ es) (vs ++ us)
  | [], es, [], us, _, r => r
  | d :: ds, es, v :: vs, us, h, r => by
    simp only [List.cons_append, Reps] at h ⊢
    exact ⟨h.1, Reps.app h.2 r⟩
  | [], _, _ :: _, _, h, _ => by simp only [Reps] at h
  | _ :: _, _, [], _, h, _ => by simp only [Reps] at h
theorem Reps.take : ∀ {ds : List D} {vs : List V} (n : Nat), Reps L B H ds vs → Reps L B H (ds.take n) (vs.take n)
  | _, _, 0, _ => by simp only [List.take_zero, Reps]
  | [], [], n + 1, h => by simpa using h
  | d :: ds, v :: vs, n + 1, h => by simp only [List.take_succ_cons, Reps] at h ⊢; exact ⟨h.1, Reps.take n h.2⟩
  | [], _ :: _, _ + 1, h => by simp only [Reps] at h
  | _ :: _, [], _ + 1, h => by simp only [Reps] at h
theorem Reps.drop : ∀ {ds : List D} {vs : List V} (n : Nat), Reps L B H ds vs → Reps L B H (ds.drop n) (vs.drop n)
  | _, _, 0, h => by simpa using h
  | [], [], n + 1, h => by simpa using h
  | d :: ds, v :: vs, n + 1, h => by simp only [List.drop_succ_cons]; simp only [Reps] at h; exact Reps.drop n h.2
  | [], _ :: _, _ + 1, h => by simp only [Reps] at h
  | _ :: _, [], _ + 1, h => by simp only [Reps] at h
theorem Reps.erase {ds : List D} {vs : List V} (n : Nat) (h : Reps L B H ds vs) : Reps L B H (ds.eraseIdx n) (vs.eraseIdx n) := by
  rw [List.eraseIdx_eq_take_drop_succ, List.eraseIdx_eq_take_drop_succ]
  exact (h.take n).app (h.drop (n + 1))
theorem Reps.one {d : D} {v : V} (h : Rep L B H d v) : Reps L B H [d] [v] := by simp only [Reps]; exact ⟨h, trivial⟩
theorem Reps.rev : ∀ {ds : List D} {vs : List V}, Reps L B H ds vs → Reps L B H ds.reverse vs.reverse
  | [], [], h => by simpa using h
  | d :: ds, v :: vs, h => by
    simp only [Reps] at h
    rw [List.reverse_cons, List.reverse_cons]
    exact h.2.rev.app (.one h.1)
  | [], _ :: _, h => by simp only [Reps] at h
  | _ :: _, [], h => by simp only [Reps] at h
theorem Reps.rep {ds : List D} {vs : List V} (h : Reps L B H ds vs) : ∀ k : Nat, Reps L B H (List.replicate k ds).flatten (List.replicate k vs).flatten
  | 0 => by simp only [List.replicate_zero, List.flatten_nil, Reps]
  | k + 1 => by
    rw [List.replicate_succ, List.replicate_succ, List.flatten_cons, List.flatten_cons]
    exact h.app (h.rep k)
theorem Reps.nil_iff {ds : List D} {vs : List V} (h : Reps L B H ds vs) : ds = [] ↔ vs = [] := by
  cases ds <;> cases vs <;> simp [Reps] at h ⊢
theorem Reps.ints : ∀ {ns : List Int} {ds : List D} {vs : List V}, intsOf ds = some ns → Reps L B H ds vs → vs = ns.map V.int
  | ns, [], [], e, _ => by simp only [intsOf, Option.some.injEq] at e; subst e; rfl
  | ns, .int i :: ds, v :: vs, e, h => by
    simp only [intsOf] at e
    cases q : intsOf ds with
    | none => rw [q] at e; simp at e
    | some ms =>
      rw [q] at e
      simp only [Option.map_some, Option.some.injEq] at e
      subst e
      simp only [Reps, Rep] at h
      rw [h.1, Reps.ints q h.2]
      rfl
  | _, .non :: _, _, e, _ => by simp [intsOf] at e
  | _, .bl _ :: _, _, e, _ => by simp [intsOf] at e
  | _, .str _ :: _, _, e, _ => by simp [intsOf] at e
  | _, .tup _ :: _, _, e, _ => by simp [intsOf] at e
  | _, .lst _ :: _, _, e, _ => by simp [intsOf] at e
  | _, .dct _ _ :: _, _, e, _ => by simp [intsOf] at e
  | _, .obj _ _ :: _, _, e, _ => by simp [intsOf] at e
  | _, .scr _ :: _, _, e, _ => by simp [intsOf] at e
  | _, [], _ :: _, _, h => by simp only [Reps] at h
  | _, .int _ :: _, [], _, h => by simp only [Reps] at h
theorem reps_ints : ∀ (ns : List Int), Reps L B H (ns.map .int) (ns.map V.int)
  | [] => by simp only [List.map_nil, Reps]
  | n :: ns => by simp only [List.map_cons, Reps, Rep]; exact ⟨trivial, reps_ints ns⟩
theorem Reps.bls : ∀ {ns : List Bool} {ds : List D} {vs : List V}, blsOf ds = some ns → Reps L B H ds vs → vs = ns.map V.bl
  | ns, [], [], e, _ => by simp only [blsOf, Option.some.injEq] at e; subst e; rfl
  | ns, .bl i :: ds, v :: vs, e, h => by
    simp only [blsOf] at e
    cases q : blsOf ds with
    | none => rw [q] at e; simp at e
    | some ms =>
      rw [q] at e
      simp only [Option.map_some, Option.some.injEq] at e
      subst e
      simp only [Reps, Rep] at h
      rw [h.1, Reps.bls q h.2]
      rfl
  | _, .non :: _, _, e, _ => by simp [blsOf] at e
  | _, .int _ :: _, _, e, _ => by simp [blsOf] at e
  | _, .str _ :: _, _, e, _ => by simp [blsOf] at e
  | _, .tup _ :: _, _, e, _ => by simp [blsOf] at e
  | _, .lst _ :: _, _, e, _ => by simp [blsOf] at e
  | _, .dct _ _ :: _, _, e, _ => by simp [blsOf] at e
  | _, .obj _ _ :: _, _, e, _ => by simp [blsOf] at e
  | _, .scr _ :: _, _, e, _ => by simp [blsOf] at e
  | _, [], _ :: _, _, h => by simp only [Reps] at h
  | _, .bl _ :: _, [], _, h => by simp only [Reps] at h
end

/-! ### slots -/
def Own (os : OS) : AP := fun a => ∃ (i : Nat) (o : List Addr), os[i]? = some o ∧ a ∈ o
def Av (A : AP) (os : OS) : AP := fun a => A a ∨ Own os a
def SlotRep (L : Lk) (B : AP) (H : Hp) (v : Option V) (s : Slot) (o : List Addr) : Prop := match s with
  | .no => o = []
  | .shr _ d => o = [] ∧ ∃ x, v = some x ∧ Rep L B H d x
  | .own _ d => ∃ p, o = [p] ∧ v = some (.ref p) ∧ OwnRep L B H d p
structure EnvRep (L : Lk) (fl : List Bool) (A : AP) (H : Hp) (σ : L2.St) (env : Env) (os : OS) : Prop where
  le : env.length = σ.length
  lo : os.length = env.length
  fl : env.map Slot.pin = fl
  rep : ∀ (i : Nat) (s : Slot), env[i]? = some s → ∃ v o, σ[i]? = some v ∧ os[i]? = some o ∧ SlotRep L (Av A os) H v s o
  uq : ∀ (i j : Nat) (o o' : List Addr) (a : Addr), os[i]? = some o → os[j]? = some o' → a ∈ o → a ∈ o' → i = j
  dj : ∀ a, A a → ¬ Own os a
  dm : ∀ a, A a → H a ≠ none
  tab : LamX.Tabs L.T H
/-- os' tells no more than os -/
def Sub (os' os : OS) : Prop := ∀ (i : Nat) (o : List Addr), os'[i]? = some o → ∃ o', os[i]? = some o' ∧ ∀ a ∈ o, a ∈ o'
theorem Sub.refl (os : OS) : Sub os os := fun i o e => ⟨o, e, fun _ h => h⟩
theorem Sub.trans {a b c : OS} (h : Sub a b) (k : Sub b c) : Sub a c := fun i o e => by
  obtain ⟨o1, e1, s1⟩ := h i o e
  obtain ⟨o2, e2, s2⟩ := k i o1 e1
  exact ⟨o2, e2, fun x hx => s2 x (s1 x hx)⟩
theorem Sub.own {a b : OS} (h : Sub a b) : ∀ x, Own a x → Own b x := fun x ⟨i, o, e, hx⟩ => by
  obtain ⟨o', e', s⟩ := h i o e
  exact ⟨i, o', e', s x hx⟩
theorem SlotRep.root {L : Lk} {B : AP} {H : Hp} {v : Option V} {s : Slot} {o : List Addr} {d : D} (h : SlotRep L B H v s o) (hc : s.cont = some d) : ∃ x, v = some x ∧ Root L B H d x := by
  cases s with
  | no => simp [Slot.cont] at hc
  | shr p d' =>
    simp only [Slot.cont, Option.some.injEq] at hc; subst hc
    obtain ⟨_, x, e, r⟩ := h
    exact ⟨x, e, r.root⟩
  | own p d' =>
    simp only [Slot.cont, Option.some.injEq] at hc; subst hc
    obtain ⟨q, _, e, r⟩ := h
    exact ⟨_, e, r.root⟩
section
variable {L : Lk} {fl : List Bool} {A A' : AP} {H H' : Hp} {σ : L2.St} {env env' : Env} {os os' : OS}
theorem SlotRep.keep {B O : AP} {v : Option V} {s : Slot} {o : List Addr} (k : Pr O H H') (hO : ∀ a, O a → B a) (hn : ∀ a ∈ o, ¬ O a) (h : SlotRep L B H v s o) : SlotRep L B H' v s o := by
  cases s with
  | no => exact h
  | shr p d => obtain ⟨e, x, e1, r⟩ := h; exact ⟨e, x, e1, r.keep k hO⟩
  | own p d =>
    obtain ⟨q, e, e1, r⟩ := h
    exact ⟨q, e, e1, r.keep k hO (hn q (by rw [e]; exact List.mem_cons_self))⟩
theorem SlotRep.more {B B' : AP} {v : Option V} {s : Slot} {o : List Addr} (hB : ∀ a, B' a → B a ∨ H a = none) (h : SlotRep L B H v s o) : SlotRep L B' H v s o := by
  cases s with
  | no => exact h
  | shr p d => obtain ⟨e, x, e1, r⟩ := h; exact ⟨e, x, e1, r.more hB⟩
  | own p d => obtain ⟨q, e, e1, r⟩ := h; exact ⟨q, e, e1, r.more hB⟩
theorem tabs_of {T : List (Addr × Str)} {O : AP} (t : LamX.Tabs T H) (k : Ex H H') : LamX.Tabs T H' := t.ext k
/-- the heap grows -/
theorem EnvRep.ext (r : EnvRep L fl A H σ env os) (e : Ex H H') : EnvRep L fl A H' σ env os :=
  ⟨r.le, r.lo, r.fl, fun i s hs => by
    obtain ⟨v, o, h1, h2, h3⟩ := r.rep i s hs
    exact ⟨v, o, h1, h2, h3.keep (O := fun _ => False) e.pr (fun _ z => z.elim) fun _ _ z => z⟩, r.uq, r.dj, fun a ha z => r.dm a ha (e.free z), r.tab.ext e⟩
/-- what is not there yet may be left aside too -/
theorem EnvRep.avoid (r : EnvRep L fl A H σ env os) (hA : ∀ a, A' a → A a ∨ H a = none) (hd : ∀ a, A' a → H' a ≠ none) (e : Ex H H') : EnvRep L fl A' H' σ env os :=
  ⟨r.le, r.lo, r.fl, fun i s hs => by
    obtain ⟨v, o, h1, h2, h3⟩ := r.rep i s hs
    refine ⟨v, o, h1, h2, (h3.more (B' := Av A' os) fun a ha => ?_).keep (O := fun _ => False) e.pr (fun _ z => z.elim) fun _ _ z => z⟩
    rcases ha with ha | ha
    · rcases hA a ha with z | z
      · exact .inl (.inl z)
      · exact .inr z
    · exact .inl (.inr ha), r.uq, fun a ha ho => by
      rcases hA a ha with z | z
      · exact r.dj a z ho
      · obtain ⟨i, o, h1, h2⟩ := ho
        have hi : i < env.length := by rw [← r.lo]; exact (List.getElem?_eq_some_iff.mp h1).1
        obtain ⟨v, o', _, e2, h3⟩ := r.rep i (env[i]) (List.getElem?_eq_getElem hi)
        rw [h1] at e2; cases e2
        cases q : env[i] with
        | no => rw [q] at h3; rw [show o = [] from h3] at h2; cases h2
        | shr p d => rw [q] at h3; rw [show o = [] from h3.1] at h2; cases h2
        | own p d =>
          rw [q] at h3
          obtain ⟨x, e3, _, r3⟩ := h3
          rw [e3] at h2
          have : a = x := by simpa using h2
          subst this
          obtain ⟨ob, e4, _⟩ := r3.dom
          rw [z] at e4
          exact (nomatch e4), hd, r.tab.ext e⟩
theorem EnvRep.less (r : EnvRep L fl A H σ env os) (hA : ∀ a, A' a → A a) : EnvRep L fl A' H σ env os :=
  r.avoid (fun a h => .inl (hA a h)) (fun a h => r.dm a (hA a h)) (Ex.refl H)
theorem EnvRep.own_dom (r : EnvRep L fl A H σ env os) {a : Addr} (h : Own os a) : ∃ o, H a = some o ∧ (∀ ps, o ≠ .tbl ps) ∧ (∀ xs, o ≠ .tup xs) ∧ ∀ ob u, o ≠ .frz ob u := by
  obtain ⟨i, o, h1, h2⟩ := h
  have hi : i < env.length := by rw [← r.lo]; exact (List.getElem?_eq_some_iff.mp h1).1
  obtain ⟨v, o', _, e2, h3⟩ := r.rep i (env[i]) (List.getElem?_eq_getElem hi)
  rw [h1] at e2; cases e2
  cases q : env[i] with
  | no => rw [q] at h3; rw [show o = [] from h3] at h2; cases h2
  | shr p d => rw [q] at h3; rw [show o = [] from h3.1] at h2; cases h2
  | own p d =>
    rw [q] at h3
    obtain ⟨x, e3, _, r3⟩ := h3
    rw [e3] at h2
    have : a = x := by simpa using h2
    subst this
    exact r3.dom
/-- a slot and its thing -/
theorem EnvRep.at (r : EnvRep L fl A H σ env os) {i : Nat} {s : Slot} {d : D} (h : env[i]? = some s) (hc : s.cont = some d) : ∃ x, σ[i]? = some (some x) ∧ Root L (Av A os) H d x := by
  obtain ⟨v, o, h1, h2, h3⟩ := r.rep i s h
  obtain ⟨x, e, q⟩ := h3.root hc
  subst e
  exact ⟨x, h1, q⟩
end
end Sb

set_option Elab.async false
set_option linter.all false
set_option maxRecDepth 100000
/-! The readings of the language's expressions, and how they are put together. -/
namespace Sb
open PySem L2

/-- what lies aside behind a value: a new thing too -/
def nA (k : Knd) (v : V) (A : AP) : AP := match k with
  | .fr => fun a => v = .ref a ∨ A a
  | _ => A
section
variable (L : Lk) (fl : List Bool)
/-- behind an evaluation -/
def PV (A : AP) (H : Hp) (σ : L2.St) (os : OS) (x : KD) (env' : Env) (v : V) (H' : Hp) (os' : OS) : Prop :=
  Sub os' os ∧ Pr (Own os) H H' ∧ EnvRep L fl (nA x.1 v A) H' σ env' os' ∧ match x.1 with
    | .shr => Rep L (Av A os') H' x.2 v
    | .fr => ∃ p, v = .ref p ∧ H p = none ∧ OwnRep L (Av (nA .fr v A) os') H' x.2 p
    | .pk i => σ[i]? = some (some v) ∧ ∃ s, env'[i]? = some s ∧ s.cont = some x.2
/-- behind an error -/
def PX (A : AP) (H : Hp) (σ : L2.St) (os : OS) (env' : Env) (H' : Hp) (os' : OS) : Prop :=
  Sub os' os ∧ Pr (Own os) H H' ∧ EnvRep L fl A H' σ env' os'
/-- behind a test -/
def PB (A : AP) (H : Hp) (σ : L2.St) (os : OS) (k : Bool) (env' : Env) (v : Bool) (H' : Hp) (os' : OS) : Prop :=
  Sub os' os ∧ Pr (Own os) H H' ∧ EnvRep L fl A H' σ env' os' ∧ v = k
/-- behind a row of values that are handed on -/
def PVs (A : AP) (H : Hp) (σ : L2.St) (os : OS) (ds : List D) (env' : Env) (vs : List V) (H' : Hp) (os' : OS) : Prop :=
  Sub os' os ∧ Pr (Own os) H H' ∧ EnvRep L fl A H' σ env' os' ∧ Reps L (Av A os') H' ds vs
end
abbrev Po (α β : Type) := AP → Hp → L2.St → OS → α → Env → β → Hp → OS → Prop
/-- one step on: less is lent, more lies aside -/
structure Stp (A : AP) (H : Hp) (os : OS) (A1 : AP) (H1 : Hp) (os1 : OS) : Prop where
  sub : Sub os1 os
  pr : Pr (Own os) H H1
  inc : ∀ a, A a → A1 a
  new : ∀ a, A1 a → A a ∨ H a = none
theorem Stp.refl (A : AP) (H : Hp) (os : OS) : Stp A H os A H os := ⟨Sub.refl _, Pr.refl _, fun _ h => h, fun _ h => .inl h⟩
theorem Stp.trans {A A1 A2 : AP} {H H1 H2 : Hp} {os os1 os2 : OS} (a : Stp A H os A1 H1 os1) (b : Stp A1 H1 os1 A2 H2 os2) : Stp A H os A2 H2 os2 :=
  ⟨b.sub.trans a.sub, a.pr.trans b.pr fun x hx => .inl (a.sub.own x hx), fun x hx => b.inc x (a.inc x hx), fun x hx => by
    rcases b.new x hx with z | z
    · exact a.new x z
    · exact .inr (a.pr.dom x z)⟩
/-- a wish that is met further on is met from here -/
def Shf {α β : Type} (P : Po α β) : Prop := ∀ A H σ os A1 H1 os1 a env' v H' os', Stp A H os A1 H1 os1 → P A1 H1 σ os1 a env' v H' os' → P A H σ os a env' v H' os'
section
variable {L : Lk} {fl : List Bool} {W : WX}
theorem nA_mono {k : Knd} {v : V} {A A1 : AP} (h : ∀ a, A a → A1 a) : ∀ a, nA k v A a → nA k v A1 a := fun a ha => by
  cases k with
  | fr => exact ha.elim .inl fun z => .inr (h a z)
  | shr => exact h a ha
  | pk i => exact h a ha
theorem shf_V : Shf (PV L fl) := by
  intro A H σ os A1 H1 os1 x env' v H' os' st ⟨h1, h2, h3, h4⟩
  have hn : ∀ a, nA x.1 v A a → nA x.1 v A1 a := nA_mono st.inc
  refine ⟨h1.trans st.sub, st.pr.trans h2 fun z hz => .inl (st.sub.own z hz), h3.less hn, ?_⟩
  obtain ⟨k, d⟩ := x
  cases k with
  | shr => exact Rep.less (fun a ha => ha.elim (fun z => .inl (st.inc a z)) .inr) h4
  | fr =>
    obtain ⟨p, e, hp, r⟩ := h4
    exact ⟨p, e, st.pr.dom p hp, r.more fun a ha => .inl (ha.elim (fun z => .inl (hn a z)) .inr)⟩
  | pk i => exact h4
theorem shf_B : Shf (PB L fl) := by
  intro A H σ os A1 H1 os1 x env' v H' os' st ⟨h1, h2, h3, h4⟩
  exact ⟨h1.trans st.sub, st.pr.trans h2 fun z hz => .inl (st.sub.own z hz), h3.less st.inc, h4⟩
theorem shf_Vs : Shf (PVs L fl) := by
  intro A H σ os A1 H1 os1 x env' v H' os' st ⟨h1, h2, h3, h4⟩
  exact ⟨h1.trans st.sub, st.pr.trans h2 fun z hz => .inl (st.sub.own z hz), h3.less st.inc, h4.less fun a ha => ha.elim (fun z => .inl (st.inc a z)) .inr⟩
theorem PX.shf {A A1 : AP} {H H1 H' : Hp} {σ : L2.St} {os os1 os' : OS} {env' : Env} (st : Stp A H os A1 H1 os1) (h : PX L fl A1 H1 σ os1 env' H' os') : PX L fl A H σ os env' H' os' :=
  ⟨h.1.trans st.sub, st.pr.trans h.2.1 fun z hz => .inl (st.sub.own z hz), h.2.2.less st.inc⟩
/-- the wish of an evaluation's answer -/
def Wp (L : Lk) (fl : List Bool) (W : WX) {α β : Type} (P : Po α β) (A : AP) (H : Hp) (σ : L2.St) (os : OS) (r : R α) (Q : β → Hp → Prop) : Prop := match r with
  | .ok a env' => ∀ v H' os', P A H σ os a env' v H' os' → Q v H'
  | .ex c env' => ∀ H' os', PX L fl A H σ os env' H' os' → W (.ref (L.ca c)) none σ H'
  | .bad => False
variable {α β γ δ : Type} {A A1 : AP} {H H1 : Hp} {σ : L2.St} {os os1 : OS}
theorem Wp.shift {P : Po α β} (hs : Shf P) {r : R α} {Q : β → Hp → Prop} (st : Stp A H os A1 H1 os1) (h : Wp L fl W P A H σ os r Q) : Wp L fl W P A1 H1 σ os1 r Q := by
  cases r with
  | ok a e => exact fun v H' os' q => h v H' os' (hs _ _ _ _ _ _ _ _ _ _ _ _ st q)
  | ex c e => exact fun H' os' q => h H' os' (q.shf st)
  | bad => exact h
theorem Wp.bnd {P : Po α β} {P2 : Po γ δ} {r : R α} {f : α → Env → R γ} {Q : δ → Hp → Prop} {Q1 : β → Hp → Prop} (h : Wp L fl W P2 A H σ os (r.bnd f) Q)
    (k : ∀ a env1 v H1 os1, P A H σ os a env1 v H1 os1 → Wp L fl W P2 A H σ os (f a env1) Q → Q1 v H1) : Wp L fl W P A H σ os r Q1 := by
  cases r with
  | ok a e => exact fun v H' os' q => k a e v H' os' q h
  | ex c e => exact h
  | bad => exact h
theorem Wp.mono {P : Po α β} {r : R α} {Q Q' : β → Hp → Prop} (h : Wp L fl W P A H σ os r Q) (k : ∀ v H', Q v H' → Q' v H') : Wp L fl W P A H σ os r Q' := by
  cases r with
  | ok a e => exact fun v H' os' q => k v H' (h v H' os' q)
  | ex c e => exact h
  | bad => exact h
/-- what follows a value -/
theorem PV.stp {x : KD} {env' : Env} {v : V} {H' : Hp} {os' : OS} (h : PV L fl A H σ os x env' v H' os') : Stp A H os (nA x.1 v A) H' os' := by
  obtain ⟨h1, h2, h3, h4⟩ := h
  obtain ⟨k, d⟩ := x
  refine ⟨h1, h2, fun a ha => ?_, fun a ha => ?_⟩
  · cases k with
    | fr => exact .inr ha
    | shr => exact ha
    | pk i => exact ha
  · cases k with
    | fr =>
      obtain ⟨p, e, hp, _⟩ := h4
      rcases ha with ha | ha
      · rw [e] at ha; cases ha; exact .inr hp
      · exact .inl ha
    | shr => exact .inl ha
    | pk i => exact .inl ha
theorem PV.env {x : KD} {env' : Env} {v : V} {H' : Hp} {os' : OS} (h : PV L fl A H σ os x env' v H' os') : EnvRep L fl (nA x.1 v A) H' σ env' os' := h.2.2.1
theorem PB.stp {x : Bool} {env' : Env} {v : Bool} {H' : Hp} {os' : OS} (h : PB L fl A H σ os x env' v H' os') : Stp A H os A H' os' := ⟨h.1, h.2.1, fun _ z => z, fun _ z => .inl z⟩
theorem PVs.stp {x : List D} {env' : Env} {v : List V} {H' : Hp} {os' : OS} (h : PVs L fl A H σ os x env' v H' os') : Stp A H os A H' os' := ⟨h.1, h.2.1, fun _ z => z, fun _ z => .inl z⟩
theorem PX.stp {env' : Env} {H' : Hp} {os' : OS} (h : PX L fl A H σ os env' H' os') : Stp A H os A H' os' := ⟨h.1, h.2.1, fun _ z => z, fun _ z => .inl z⟩
/-- a part of a row further on -/
theorem Stp.rep {B : AP} {A2 : AP} {H2 : Hp} {os2 : OS} (st : Stp A1 H1 os1 A2 H2 os2) {d : D} {v : V} (h : Rep L (Av A1 os1) H1 d v) : Rep L (Av A2 os2) H2 d v := by
  refine Rep.keep (O := Own os1) (B := fun a => Av A1 os1 a ∨ Av A2 os2 a) st.pr (fun a ha => .inl (.inr ha)) ?_ |>.less fun a ha => .inr ha
  refine h.more fun a ha => ?_
  rcases ha with ha | ha | ha
  · exact .inl ha
  · rcases st.new a ha with z | z
    · exact .inl (.inl z)
    · exact .inr z
  · exact .inl (.inr (st.sub.own a ha))
theorem Stp.reps {A2 : AP} {H2 : Hp} {os2 : OS} (st : Stp A1 H1 os1 A2 H2 os2) : ∀ {ds : List D} {vs : List V}, Reps L (Av A1 os1) H1 ds vs → Reps L (Av A2 os2) H2 ds vs
  | [], [], h => by simp only [Reps]
  | d :: ds, v :: vs, h => by
    simp only [Reps] at h ⊢
    exact ⟨st.rep (B := fun _ => False) h.1, st.reps h.2⟩
  | [], _ :: _, h => by simp only [Reps] at h
  | _ :: _, [], h => by simp only [Reps] at h
theorem Stp.ownRep {A2 : AP} {H2 : Hp} {os2 : OS} (st : Stp A1 H1 os1 A2 H2 os2) {d : D} {p : Addr} (hp : ¬ Own os1 p) (h : OwnRep L (Av A1 os1) H1 d p) : OwnRep L (Av A2 os2) H2 d p := by
  refine (OwnRep.keep (O := Own os1) (B := fun a => Av A1 os1 a ∨ Av A2 os2 a) st.pr (fun a ha => .inl (.inr ha)) hp ?_).more fun a ha => .inl (.inr ha)
  refine h.more fun a ha => ?_
  rcases ha with ha | ha | ha
  · exact .inl ha
  · rcases st.new a ha with z | z
    · exact .inl (.inl z)
    · exact .inr z
  · exact .inl (.inr (st.sub.own a ha))
/-- an operand when the operation is done -/
theorem PV.settle {x : KD} {env1 env2 : Env} {v : V} {A2 : AP} {H2 : Hp} {os2 : OS} {d : D} (h : PV L fl A H σ os x env1 v H1 os1) (st : Stp (nA x.1 v A) H1 os1 A2 H2 os2) (r2 : EnvRep L fl A2 H2 σ env2 os2)
    (e : stl x env2 = some d) : Root L (Av A2 os2) H2 d v := by
  obtain ⟨h1, h2, h3, h4⟩ := h
  obtain ⟨k, d0⟩ := x
  cases k with
  | shr =>
    simp only [stl, Option.some.injEq] at e; subst e
    exact (st.rep (B := fun _ => False) h4).root
  | fr =>
    simp only [stl, Option.some.injEq] at e; subst e
    obtain ⟨p, ev, hp, q⟩ := h4
    have hn : ¬ Own os1 p := h3.dj p (.inl ev)
    rw [ev] at q st ⊢
    exact (st.ownRep hn q).root
  | pk i =>
    obtain ⟨hs, _⟩ := h4
    simp only [stl, Option.bind_eq_some_iff] at e
    obtain ⟨s, e1, e2⟩ := e
    obtain ⟨y, e3, q⟩ := r2.at e1 e2
    rw [hs] at e3; cases e3
    exact q
/-- an operand that is handed on -/
theorem PV.emb {x : KD} {env1 : Env} {v : V} {d : D} (h : PV L fl A H σ os x env1 v H1 os1) (hA : ∀ a, A a → H a ≠ none) (e : emb x = some d) : PV L fl A H σ os (.shr, d) env1 v H1 os1 := by
  obtain ⟨h1, h2, h3, h4⟩ := h
  obtain ⟨k, d0⟩ := x
  cases k with
  | shr =>
    simp only [Sb.emb, Option.some.injEq] at e; subst e
    exact ⟨h1, h2, h3, h4⟩
  | fr =>
    simp only [Sb.emb, Option.some.injEq] at e; subst e
    obtain ⟨p, ev, hp, q⟩ := h4
    refine ⟨h1, h2, h3.less fun a ha => .inr ha, ?_⟩
    rw [ev] at q h3 ⊢
    refine (q.more fun a ha => .inl (ha.elim (fun z => .inl (.inr z)) .inr)).rep fun z => ?_
    rcases z with z | z
    · exact hA p z hp
    · exact h3.dj p (.inl rfl) z
  | pk i => simp [Sb.emb] at e
/-- behind an operation: a new thing, or another one -/
def OpPost (L : Lk) (B : AP) (H : Hp) (fr : Bool) (d : D) (v : V) (H' : Hp) : Prop :=
  Ex H H' ∧ if fr = true then ∃ p, v = .ref p ∧ H p = none ∧ OwnRep L (fun a => a = p ∨ B a) H' d p else Rep L B H' d v
theorem fin_op {env : Env} {x : FD} {v : V} {H' : Hp} (r : EnvRep L fl A H σ env os) (h : OpPost L (Av A os) H x.1 x.2 v H') : PV L fl A H σ os (if x.1 then .fr else .shr, x.2) env v H' os := by
  obtain ⟨fr, d⟩ := x
  obtain ⟨e, h⟩ := h
  cases fr with
  | false =>
    exact ⟨Sub.refl _, e.pr, r.ext e, h⟩
  | true =>
    obtain ⟨p, ev, hp, q⟩ := h
    subst ev
    have hd : H' p ≠ none := by
      obtain ⟨o, eo, _⟩ := q.dom
      rw [eo]; simp
    refine ⟨Sub.refl _, e.pr, r.avoid (fun a ha => ?_) (fun a ha => ?_) e, p, rfl, hp, ?_⟩
    · rcases ha with ha | ha
      · cases ha; exact .inr hp
      · exact .inl ha
    · rcases ha with ha | ha
      · cases ha; exact hd
      · exact fun z => r.dm a ha (e.free z)
    · refine q.more fun a ha => .inl ?_
      rcases ha with (ha | ha) | ha
      · cases ha; exact .inl rfl
      · exact .inr (.inl ha)
      · exact .inr (.inr ha)
/-- a new list of what was there -/
theorem post_lst {B : AP} {H : Hp} {p : Addr} {ds : List D} {vs : List V} (hp : H p = none) (h : Reps L B H ds vs) : OpPost L B H true (.lst ds) (.ref p) (upd H p (.lst vs)) := by
  refine ⟨Ex.new hp, ?_⟩
  rw [if_pos rfl]
  refine ⟨p, rfl, hp, vs, upd_same, ?_⟩
  refine Reps.keep (O := fun _ => False) (Ex.new hp).pr (fun _ z => z.elim) (h.more fun a ha => ?_)
  rcases ha with ha | ha
  · rw [ha]; exact .inr hp
  · exact .inl ha
theorem post_tup {B : AP} {H : Hp} {p : Addr} {ds : List D} {vs : List V} (hp : H p = none) (h : Reps L B H ds vs) : OpPost L B H false (.tup ds) (.ref p) (upd H p (.tup vs)) := by
  refine ⟨Ex.new hp, ?_⟩
  rw [if_neg (by decide)]
  simp only [Rep]
  exact ⟨p, vs, rfl, .of upd_same, Reps.keep (O := fun _ => False) (Ex.new hp).pr (fun _ z => z.elim) h⟩
theorem post_same {B : AP} {H : Hp} {d : D} {v : V} (h : Rep L B H d v) : OpPost L B H false d v H := by
  refine ⟨Ex.refl H, ?_⟩
  rw [if_neg (by decide)]
  exact h
/-- the wish of an operation's answer -/
theorem Wp.op {env : Env} {o : Option FD} {Q : VK} (r : EnvRep L fl A H σ env os) (h : Wp L fl W (PV L fl) A H σ os (kFD o env) Q) :
    ∃ x : FD, o = some x ∧ ∀ v H', OpPost L (Av A os) H x.1 x.2 v H' → Q v H' := by
  cases o with
  | none => exact h.elim
  | some x => exact ⟨x, rfl, fun v H' q => h v H' os (fin_op r q)⟩

/-! ### the readings -/
/-- an expression's -/
def TEv (C : Cal) (sub : Nat → Nat → Bool) (L : Lk) (W : WX) (e : IE) : TE := fun σ H Q =>
  ∃ fl A env os, EnvRep L fl A H σ env os ∧ Wp L fl W (PV L fl) A H σ os (evE C sub e env) Q
def TTv (C : Cal) (sub : Nat → Nat → Bool) (L : Lk) (W : WX) (e : IT) : TT := fun σ H Q =>
  ∃ fl A env os, EnvRep L fl A H σ env os ∧ Wp L fl W (PB L fl) A H σ os (evT C sub e env) Q
def TAv (C : Cal) (sub : Nat → Nat → Bool) (L : Lk) (W : WX) (es : List IE) : TA := fun σ H Q =>
  ∃ fl A env os, EnvRep L fl A H σ env os ∧ Wp L fl W (PVs L fl) A H σ os (evEs C sub es env) Q
variable {C : Cal} {sub : Nat → Nat → Bool} {X : Cx}
theorem _root_.L2.PE.imp {e : Expr} {t t' : TE} (h : PE X e t) (k : ∀ σ H Q, t' σ H Q → t σ H Q) : PE X e t' := ⟨fun pins s σ H Q I q => h.run pins s σ H Q I (k σ H Q q)⟩
theorem _root_.L2.PT.imp {e : Expr} {t t' : TT} (h : PT X e t) (k : ∀ σ H Q, t' σ H Q → t σ H Q) : PT X e t' := ⟨fun pins s σ H Q I q => h.run pins s σ H Q I (k σ H Q q)⟩
theorem _root_.L2.PA.imp {e : List Expr} {t t' : TA} (h : PA X e t) (k : ∀ σ H Q, t' σ H Q → t σ H Q) : PA X e t' := ⟨fun ps pins s σ H Q I q => h.run ps pins s σ H Q I (k σ H Q q)⟩
theorem _root_.L2.PS.imp {e : Stmt} {t t' : TS} (h : PS X e t) (k : ∀ D σ H, t' D σ H → t D σ H) : PS X e t' := ⟨fun pins s σ H D I q => h.run pins s σ H D I (k D σ H q)⟩
theorem _root_.L2.PSs.imp {e : List Stmt} {t t' : TS} (h : PSs X e t) (k : ∀ D σ H, t' D σ H → t D σ H) : PSs X e t' := ⟨fun pins s σ H D I q => h.run pins s σ H D I (k D σ H q)⟩
/-- operand after operand: what is wished of the first, told by what follows -/
theorem TEv.go {a : IE} {fl : List Bool} {A : AP} {env : Env} {os : OS} {H : Hp} {σ : L2.St} {β γ : Type} {P2 : Po β γ} {f : KD → Env → R β} {Q : γ → Hp → Prop} {Q1 : VK} (hs : Shf P2) (r : EnvRep L fl A H σ env os)
    (h : Wp L fl W P2 A H σ os ((evE C sub a env).bnd f) Q)
    (k : ∀ x env1 v H1 os1, PV L fl A H σ os x env1 v H1 os1 → EnvRep L fl (nA x.1 v A) H1 σ env1 os1 → Stp A H os (nA x.1 v A) H1 os1 → Wp L fl W P2 (nA x.1 v A) H1 σ os1 (f x env1) Q → Q1 v H1) : TEv C sub L W a σ H Q1 :=
  ⟨fl, A, env, os, r, h.bnd fun x env1 v H1 os1 p w => k x env1 v H1 os1 p p.env p.stp (w.shift hs p.stp)⟩
theorem TTv.go {a : IT} {fl : List Bool} {A : AP} {env : Env} {os : OS} {H : Hp} {σ : L2.St} {β γ : Type} {P2 : Po β γ} {f : Bool → Env → R β} {Q : γ → Hp → Prop} {Q1 : Bool → Hp → Prop} (hs : Shf P2) (r : EnvRep L fl A H σ env os)
    (h : Wp L fl W P2 A H σ os ((evT C sub a env).bnd f) Q)
    (k : ∀ x env1 H1 os1, EnvRep L fl A H1 σ env1 os1 → Stp A H os A H1 os1 → Wp L fl W P2 A H1 σ os1 (f x env1) Q → Q1 x H1) : TTv C sub L W a σ H Q1 :=
  ⟨fl, A, env, os, r, h.bnd fun x env1 v H1 os1 p w => by
    obtain rfl : v = x := p.2.2.2
    exact k v env1 H1 os1 p.2.2.1 p.stp (w.shift hs p.stp)⟩

/-! ### operations by rules -/
def Op2S (L : Lk) (r : R2) (o : Op2) : Prop := ∀ (B : AP) (H : Hp) (x y : V) (a b : D) (z : FD) (Q : VK), Root L B H a x → Root L B H b y → op2D o a b = some z → (∀ v H', OpPost L B H z.1 z.2 v H' → Q v H') → r x y H Q
def Op1S (L : Lk) (r : V → Hp → VK → Prop) (o : Op1) : Prop := ∀ (B : AP) (H : Hp) (x : V) (a : D) (z : FD) (Q : VK), Root L B H a x → op1D o a = some z → (∀ v H', OpPost L B H z.1 z.2 v H' → Q v H') → r x H Q
theorem tOp_of {r : R2} {o : Op2} {a b : IE} (hr : Op2S L r o) : ∀ σ H Q, TEv C sub L W (.op2 o a b) σ H Q → tOp r (TEv C sub L W a) (TEv C sub L W b) σ H Q := fun σ H Q ⟨fl, A, env, os, r0, h⟩ => by
  rw [evE] at h
  refine TEv.go shf_V r0 h fun x env1 v H1 os1 p1 r1 st1 w1 => ?_
  refine TEv.go shf_V r1 w1 fun y env2 u H2 os2 p2 r2 st2 w2 => ?_
  unfold ap2 at w2
  cases e1 : stl x env2 with
  | none => rw [e1] at w2; exact w2.elim
  | some da => cases e2 : stl y env2 with
    | none => rw [e1, e2] at w2; exact w2.elim
    | some db =>
      rw [e1, e2] at w2
      obtain ⟨z, ez, k⟩ := w2.op r2
      exact hr _ _ _ _ _ _ z Q (p1.settle st2 r2 e1) (p2.settle (Stp.refl _ _ _) r2 e2) ez k
theorem tUn_of {r : V → Hp → VK → Prop} {o : Op1} {a : IE} (hr : Op1S L r o) : ∀ σ H Q, TEv C sub L W (.op1 o a) σ H Q → tUn r (TEv C sub L W a) σ H Q := fun σ H Q ⟨fl, A, env, os, r0, h⟩ => by
  rw [evE] at h
  refine TEv.go shf_V r0 h fun x env1 v H1 os1 p1 r1 st1 w1 => ?_
  unfold ap1 at w1
  cases e1 : stl x env1 with
  | none => rw [e1] at w1; exact w1.elim
  | some da =>
    rw [e1] at w1
    obtain ⟨z, ez, k⟩ := w1.op r1
    exact hr _ _ _ _ z Q (p1.settle (Stp.refl _ _ _) r1 e1) ez k
end
end Sb

set_option Elab.async false
set_option linter.all false
set_option maxRecDepth 100000
/-! Operations of the language, by the layer's rules. -/
namespace Sb
open PySem L2
theorem lim_line {n : Nat} (h : n ≤ lim) : n ≤ sizeLine := Nat.le_trans h (by decide)
section
variable {L : Lk} {B : AP} {H : Hp} {X : Cx}
theorem root_int {v : V} {i : Int} (h : Root L B H (.int i) v) : v = .int i := by simpa only [Root, Rep] using h
theorem root_bl {v : V} {i : Bool} (h : Root L B H (.bl i) v) : v = .bl i := by simpa only [Root, Rep] using h
theorem root_str {v : V} {i : Str} (h : Root L B H (.str i) v) : v = .str i := by simpa only [Root, Rep] using h
theorem root_non {v : V} (h : Root L B H .non v) : v = .non := by simpa only [Root, Rep] using h
theorem root_tup {v : V} {ds : List D} (h : Root L B H (.tup ds) v) : ∃ p vs, v = .ref p ∧ SqT L.K H p vs ∧ Reps L B H ds vs := by simpa only [Root, Rep] using h
theorem rep_int {i : Int} : Rep L B H (.int i) (.int i) := by simp only [Rep]
theorem rep_bl {i : Bool} : Rep L B H (.bl i) (.bl i) := by simp only [Rep]
theorem rep_str {i : Str} : Rep L B H (.str i) (.str i) := by simp only [Rep]
def rAdd (K : PySem.W.Frag) : R2 := fun x y H Q => ((rI0 fun i j => .int (i + j)) x y H Q ∨ rCat x y H Q) ∨ (rCatA K x y H Q ∨ (∃ i j, x = .str i ∧ y = .str j ∧ i.length + j.length ≤ sizeLine ∧ Q (.str (i ++ j)) H))
theorem op_addG : OpR X (binaryOp .Add) (rAdd X.K) := (op_add.or op_cat).or (op_catA.or op_add_str)
theorem s_add : Op2S L (rAdd L.K) .add := by
  intro B H x y a b z Q hx hy e k
  cases a <;> cases b <;> simp only [op2D, reduceCtorEq] at e
  · -- ints
    cases e
    exact .inl (.inl ⟨_, _, root_int hx, root_int hy, k _ _ (post_same rep_int)⟩)
  · -- texts
    rename_i s t
    split at e
    · cases e
      exact .inr (.inr ⟨_, _, root_str hx, root_str hy, lim_line (by assumption), k _ _ (post_same rep_str)⟩)
    · cases e
  · -- tuples
    rename_i ds es
    split at e
    · rename_i hl
      cases e
      obtain ⟨p, vs, ex, hp, r1⟩ := root_tup hx
      obtain ⟨q, us, ey, hq, r2⟩ := root_tup hy
      have l1 := r1.len
      have l2 := r2.len
      refine .inr (.inl ⟨p, q, vs, us, ex, ey, hp, hq, lim_line (by omega), fun h0 => ?_, fun h0 h1 => ?_, fun h0 h1 r hr => ?_⟩)
      · subst h0
        have : ds = [] := r1.nil_iff.mpr rfl
        subst this
        refine k _ _ (post_same ?_)
        simp only [Rep, List.nil_append]
        exact ⟨q, us, rfl, hq, r2⟩
      · subst h1
        have : es = [] := r2.nil_iff.mpr rfl
        subst this
        refine k _ _ (post_same ?_)
        simp only [Rep, List.append_nil]
        exact ⟨p, vs, rfl, hp, r1⟩
      · exact k _ _ (post_tup hr (r1.app r2))
    · cases e
  · -- lists
    rename_i ds es
    split at e
    · rename_i hl
      cases e
      obtain ⟨p, vs, ex, hp, r1⟩ := hx
      obtain ⟨q, us, ey, hq, r2⟩ := hy
      have l1 := r1.len
      have l2 := r2.len
      exact .inl (.inr ⟨p, q, vs, us, ex, ey, hp, hq, lim_line (by omega), fun r hr => k _ _ (post_lst hr (r1.app r2))⟩)
    · cases e
theorem s_sub : Op2S L (rI0 fun i j => .int (i - j)) .sub := by
  intro B H x y a b z Q hx hy e k
  cases a <;> cases b <;> simp only [op2D, reduceCtorEq] at e
  cases e
  exact ⟨_, _, root_int hx, root_int hy, k _ _ (post_same rep_int)⟩
theorem s_fdiv : Op2S L (rI CDivN fun i j => .int (i.fdiv j)) .fdiv := by
  intro B H x y a b z Q hx hy e k
  cases a <;> cases b <;> simp only [op2D, reduceCtorEq] at e
  split at e
  · rename_i h
    cases e
    simp only [Bool.and_eq_true, decide_eq_true_eq] at h
    exact ⟨_, _, root_int hx, root_int hy, h, k _ _ (post_same rep_int)⟩
  · cases e
theorem s_mod : Op2S L (rI (fun _ j => j ≠ 0) fun i j => .int (i.fmod j)) .mod := by
  intro B H x y a b z Q hx hy e k
  cases a <;> cases b <;> simp only [op2D, reduceCtorEq] at e
  split at e
  · rename_i h
    cases e
    exact ⟨_, _, root_int hx, root_int hy, h, k _ _ (post_same rep_int)⟩
  · cases e
theorem s_pow : Op2S L (rI CPow fun i j => .int (i ^ j.toNat)) .pow := by
  intro B H x y a b z Q hx hy e k
  cases a <;> cases b <;> simp only [op2D, reduceCtorEq] at e
  split at e
  · rename_i h
    cases e
    simp only [Bool.and_eq_true, decide_eq_true_eq] at h
    exact ⟨_, _, root_int hx, root_int hy, ⟨h.1.1, by omega, h.2⟩, k _ _ (post_same rep_int)⟩
  · cases e
/-- a list, a tuple times an int -/
def rMul (K : PySem.W.Frag) : R2 := fun x y H Q => ((rI CMul fun i j => .int (i * j)) x y H Q ∨ rRep x y H Q) ∨ rRepT K x y H Q
theorem op_mulG : OpR X (binaryOp .Mult) (rMul X.K) := (op_mul.or op_rep).or op_repT
theorem small64_ok {i : Int} (h : small64 i = true) : -(2 ^ 64) < i ∧ i < 2 ^ 64 := by
  unfold small64 at h
  simpa only [Bool.and_eq_true, decide_eq_true_eq] using h
mutual
theorem eqD_py : ∀ (a b : D) (n m : Nat), eqOk n a = true → eqOk m b = true → eqD a b = PyData.eqv (toPy a) (toPy b)
  | .non, b, n, m, ha, hb => by cases b <;> simp [eqD, toPy, PyData.eqv] <;> simp [eqOk] at hb
  | .bl x, b, n, m, ha, hb => by cases b <;> simp [eqD, toPy, PyData.eqv] <;> simp [eqOk] at hb
  | .int x, b, n, m, ha, hb => by cases b <;> simp [eqD, toPy, PyData.eqv] <;> simp [eqOk] at hb
  | .str x, b, n, m, ha, hb => by cases b <;> simp [eqD, toPy, PyData.eqv] <;> simp [eqOk] at hb
  | .tup ds, b, n, m, ha, hb => by
    cases b with
    | tup es =>
      cases n with
      | zero => simp [eqOk] at ha
      | succ n => cases m with
        | zero => simp [eqOk] at hb
        | succ m =>
          simp only [eqOk, List.all_eq_true] at ha hb
          simp only [eqD, toPy, PyData.eqv]
          exact eqDs_py ds es n m ha hb
    | _ => simp [eqD, toPy, PyData.eqv] <;> simp [eqOk] at hb
  | .lst ds, b, n, m, ha, hb => by
    cases b with
    | lst es =>
      cases n with
      | zero => simp [eqOk] at ha
      | succ n => cases m with
        | zero => simp [eqOk] at hb
        | succ m =>
          simp only [eqOk, List.all_eq_true] at ha hb
          simp only [eqD, toPy, PyData.eqv]
          exact eqDs_py ds es n m ha hb
    | _ => simp [eqD, toPy, PyData.eqv] <;> simp [eqOk] at hb
  | .dct _ _, b, n, m, ha, hb => by simp [eqOk] at ha
  | .scr _, b, n, m, ha, hb => by simp [eqOk] at ha
  | .obj _ _, b, n, m, ha, hb => by simp [eqOk] at ha
theorem eqDs_py : ∀ (a b : List D) (n m : Nat), (∀ x ∈ a, eqOk n x = true) → (∀ x ∈ b, eqOk m x = true) → eqDs a b = PyData.eqvAll (toPys a) (toPys b)
  | [], [], _, _, _, _ => by simp [eqDs, toPys, PyData.eqvAll]
  | [], _ :: _, _, _, _, _ => by simp [eqDs, toPys, PyData.eqvAll]
  | _ :: _, [], _, _, _, _ => by simp [eqDs, toPys, PyData.eqvAll]
  | x :: a, y :: b, n, m, ha, hb => by
    simp only [eqDs, toPys, PyData.eqvAll]
    rw [eqD_py x y n m (ha x List.mem_cons_self) (hb y List.mem_cons_self), eqDs_py a b n m (fun z hz => ha z (List.mem_cons_of_mem _ hz)) (fun z hz => hb z (List.mem_cons_of_mem _ hz))]
end
mutual
theorem py_lay : ∀ (a : D) (n : Nat), eqOk n a = true → (toPy a).canLay0 = true ∧ (toPy a).depth ≤ n
  | .non, n, h => by simp [toPy, PyData.canLay0, PyData.depth]
  | .bl _, n, h => by simp [toPy, PyData.canLay0, PyData.depth]
  | .int _, n, h => by simp [toPy, PyData.canLay0, PyData.depth]
  | .str x, n, h => by
    simp only [eqOk] at h
    simp only [toPy, PyData.depth]
    exact ⟨h, Nat.zero_le _⟩
  | .tup ds, n, h => by
    cases n with
    | zero => simp [eqOk] at h
    | succ n =>
      simp only [eqOk, List.all_eq_true] at h
      have := pys_lay ds n h
      simp only [toPy, PyData.canLay0, PyData.depth]
      exact ⟨this.1, by omega⟩
  | .lst ds, n, h => by
    cases n with
    | zero => simp [eqOk] at h
    | succ n =>
      simp only [eqOk, List.all_eq_true] at h
      have := pys_lay ds n h
      simp only [toPy, PyData.canLay0, PyData.depth]
      exact ⟨this.1, by omega⟩
  | .dct _ _, n, h => by simp [eqOk] at h
  | .scr _, n, h => by simp [eqOk] at h
  | .obj _ _, n, h => by simp [eqOk] at h
theorem pys_lay : ∀ (a : List D) (n : Nat), (∀ x ∈ a, eqOk n x = true) → PyData.canLayAll0 (toPys a) = true ∧ PyData.depthAll (toPys a) ≤ n
  | [], n, h => by simp [toPys, PyData.canLayAll0, PyData.depthAll]
  | x :: a, n, h => by
    have h1 := py_lay x n (h x List.mem_cons_self)
    have h2 := pys_lay a n fun z hz => h z (List.mem_cons_of_mem _ hz)
    simp only [toPys, PyData.canLayAll0, PyData.depthAll, Bool.and_eq_true]
    exact ⟨⟨h1.1, h2.1⟩, by omega⟩
end
theorem py_shaped {a : D} (h : eqOk 20 a = true) : SeqAt.shaped (toPy a) = true := by
  have := py_lay a 20 h
  unfold SeqAt.shaped
  simp only [Bool.and_eq_true, decide_eq_true_eq]
  exact ⟨this.1, by omega⟩
mutual
theorem rep_dp : ∀ {a : D} {n : Nat} {x : V}, eqOk n a = true → Rep L B H a x → Dp L.K H x (toPy a)
  | .non, n, x, h, r => by simp only [Rep] at r; subst r; simp only [toPy]; exact .non
  | .bl b, n, x, h, r => by simp only [Rep] at r; subst r; simp only [toPy]; exact .bl b
  | .int b, n, x, h, r => by simp only [Rep] at r; subst r; simp only [toPy]; exact .int b
  | .str b, n, x, h, r => by simp only [Rep] at r; subst r; simp only [toPy]; exact .str b
  | .tup ds, n, x, h, r => by
    cases n with
    | zero => simp [eqOk] at h
    | succ n =>
      simp only [eqOk, List.all_eq_true] at h
      simp only [Rep] at r
      obtain ⟨p, vs, e, hs, q⟩ := r
      subst e
      simp only [toPy]
      exact .tup hs (reps_dp h q)
  | .lst ds, n, x, h, r => by
    cases n with
    | zero => simp [eqOk] at h
    | succ n =>
      simp only [eqOk, List.all_eq_true] at h
      simp only [Rep] at r
      obtain ⟨p, vs, e, _, hs, q⟩ := r
      subst e
      simp only [toPy]
      exact .lst (.of hs) (reps_dp h q)
  | .dct _ _, n, x, h, r => by simp [eqOk] at h
  | .scr _, n, x, h, r => by simp [eqOk] at h
  | .obj _ _, n, x, h, r => by simp [eqOk] at h
theorem reps_dp : ∀ {ds : List D} {n : Nat} {xs : List V}, (∀ x ∈ ds, eqOk n x = true) → Reps L B H ds xs → DpAll L.K H xs (toPys ds)
  | [], n, [], _, _ => by simp only [toPys]; exact .nil
  | d :: ds, n, x :: xs, h, r => by
    simp only [Reps] at r
    simp only [toPys]
    exact .cons (rep_dp (h d List.mem_cons_self) r.1) (reps_dp (fun z hz => h z (List.mem_cons_of_mem _ hz)) r.2)
  | [], _, _ :: _, _, r => by simp only [Reps] at r
  | _ :: _, _, [], _, r => by simp only [Reps] at r
end
theorem root_dp {a : D} {n : Nat} {x : V} (h : eqOk n a = true) (r : Root L B H a x) : Dp L.K H x (toPy a) := by
  cases a with
  | lst ds =>
    cases n with
    | zero => simp [eqOk] at h
    | succ n =>
      simp only [eqOk, List.all_eq_true] at h
      obtain ⟨p, vs, e, hs, q⟩ := r
      subst e
      simp only [toPy]
      exact .lst (.of hs) (reps_dp (B := B) h q)
  | dct _ _ => simp [eqOk] at h
  | scr _ => simp [eqOk] at h
  | obj _ _ => simp [eqOk] at h
  | non => exact rep_dp (B := B) h r
  | bl _ => exact rep_dp (B := B) h r
  | int _ => exact rep_dp (B := B) h r
  | str _ => exact rep_dp (B := B) h r
  | tup _ => exact rep_dp (B := B) h r
def rEqG (K : PySem.W.Frag) : R2 := fun x y H Q => rEqD K x y H Q ∨ rEq x y H Q
def rNeG (K : PySem.W.Frag) : R2 := fun x y H Q => rNeD K x y H Q ∨ rNe x y H Q
theorem op_eqG (hu : X.A.units + 64 < cLine) : OpR X (compareOp .Eq) (rEqG X.K) := (op_eqD hu).or op_eq
theorem op_neG (hu : X.A.units + 64 < cLine) : OpR X (compareOp .NotEq) (rNeG X.K) := (op_neD hu).or op_ne
theorem s_eq : Op2S L (rEqG L.K) .eq := by
  intro B H x y a b z Q hx hy e k
  simp only [op2D] at e
  split at e
  · rename_i h
    simp only [Bool.and_eq_true] at h
    cases e
    refine .inl ⟨_, _, root_dp (B := B) h.1 hx, root_dp (B := B) h.2 hy, py_shaped h.1, py_shaped h.2, ?_⟩
    rw [← eqD_py a b 20 20 h.1 h.2]
    exact k _ _ (post_same rep_bl)
  · cases a <;> cases b <;> simp only [reduceCtorEq] at e
    cases e
    rename_i s t _
    refine .inr ⟨?_, ?_⟩
    · rw [root_str hx, root_str hy]; rfl
    · rw [root_str hx, root_str hy, dec_str]
      exact k _ _ (post_same rep_bl)
theorem s_ne : Op2S L (rNeG L.K) .ne := by
  intro B H x y a b z Q hx hy e k
  simp only [op2D] at e
  split at e
  · rename_i h
    simp only [Bool.and_eq_true] at h
    cases e
    refine .inl ⟨_, _, root_dp (B := B) h.1 hx, root_dp (B := B) h.2 hy, py_shaped h.1, py_shaped h.2, ?_⟩
    rw [← eqD_py a b 20 20 h.1 h.2]
    exact k _ _ (post_same rep_bl)
  · cases a <;> cases b <;> simp only [reduceCtorEq] at e
    cases e
    rename_i s t _
    refine .inr ⟨?_, ?_⟩
    · rw [root_str hx, root_str hy]; rfl
    · rw [root_str hx, root_str hy, dec_str]
      exact k _ _ (post_same rep_bl)
theorem s_mul : Op2S L (rMul L.K) .mul := by
  intro B H x y a b z Q hx hy e k
  cases a <;> cases b <;> simp only [op2D, reduceCtorEq] at e
  · split at e
    · rename_i h
      cases e
      simp only [Bool.or_eq_true] at h
      refine .inl (.inl ⟨_, _, root_int hx, root_int hy, ?_, k _ _ (post_same rep_int)⟩)
      rcases h with h | h
      · exact .inl (small64_ok h)
      · exact .inr (small64_ok h)
    · cases e
  · rename_i ds n
    split at e
    · rename_i h
      cases e
      simp only [Bool.and_eq_true, decide_eq_true_eq, Bool.not_eq_true'] at h
      obtain ⟨p, vs, ex, hp, r1⟩ := root_tup hx
      have l1 := r1.len
      refine .inr ⟨p, n, vs, ex, root_int hy, hp, ?_, h.1.1.2, h.1.2, by omega, fun q hq => ?_⟩
      · intro z
        rw [r1.nil_iff.mpr z] at h
        simp at h
      · exact k _ _ (post_tup hq (r1.rep n.toNat))
    · cases e
  · rename_i ds n
    split at e
    · rename_i h
      cases e
      simp only [Bool.and_eq_true, decide_eq_true_eq] at h
      obtain ⟨p, vs, ex, hp, r1⟩ := hx
      have l1 := r1.len
      exact .inl (.inr ⟨p, n, vs, ex, root_int hy, hp, by omega, by omega, lim_line (by rw [← l1]; exact h.2), fun q hq => k _ _ (post_lst hq (r1.rep n.toNat))⟩)
    · cases e
/-! order -/
theorem lt_of {f : Int → Int → Bool} {o : Op2} (ho : ∀ i j, op2D o (.int i) (.int j) = oBl (f i j)) (hn : ∀ a b z, op2D o a b = some z → ∃ i j, a = .int i ∧ b = .int j) : Op2S L (rI0 fun i j => .bl (f i j)) o := by
  intro B H x y a b z Q hx hy e k
  obtain ⟨i, j, rfl, rfl⟩ := hn a b z e
  rw [ho] at e
  cases e
  exact ⟨_, _, root_int hx, root_int hy, k _ _ (post_same rep_bl)⟩
theorem s_le : Op2S L (rI0 fun i j => .bl (decide (i ≤ j))) .le := lt_of (fun _ _ => rfl) fun a b z e => by
  cases a <;> cases b <;> simp only [op2D, reduceCtorEq] at e
  exact ⟨_, _, rfl, rfl⟩
theorem s_gt : Op2S L (rI0 fun i j => .bl (decide (j < i))) .gt := lt_of (fun _ _ => rfl) fun a b z e => by
  cases a <;> cases b <;> simp only [op2D, reduceCtorEq] at e
  exact ⟨_, _, rfl, rfl⟩
def rLt (K : PySem.W.Frag) : R2 := fun x y H Q => (rI0 fun i j => .bl (decide (i < j))) x y H Q ∨ rLtT K x y H Q
theorem op_ltG (hu : X.A.units < cLine) : OpR X (compareOp .Lt) (rLt X.K) := op_lt.or (op_ltT hu)
theorem root_ints {v : V} {ds : List D} {ns : List Int} (e : intsOf ds = some ns) (h : Root L B H (.tup ds) v) : ∃ p, v = .ref p ∧ SqT L.K H p (ns.map V.int) := by
  obtain ⟨p, vs, ex, hp, r⟩ := root_tup h
  rw [r.ints e] at hp
  exact ⟨p, ex, hp⟩
theorem s_lt : Op2S L (rLt L.K) .lt := by
  intro B H x y a b z Q hx hy e k
  cases a <;> cases b <;> simp only [op2D, reduceCtorEq] at e
  · cases e
    exact .inl ⟨_, _, root_int hx, root_int hy, k _ _ (post_same rep_bl)⟩
  · rename_i ds es
    cases q1 : intsOf ds with
    | none => rw [q1] at e; cases e
    | some m => cases q2 : intsOf es with
      | none => rw [q1, q2] at e; cases e
      | some n =>
        rw [q1, q2] at e
        cases e
        obtain ⟨p, ex, hp⟩ := root_ints q1 hx
        obtain ⟨q, ey, hq⟩ := root_ints q2 hy
        exact .inr ⟨p, q, m, n, ex, ey, hp, hq, k _ _ (post_same rep_bl)⟩
/-- t >= u -/
def rGeT (K : PySem.W.Frag) : R2 := fun x y H Q => ∃ p q ns ms, x = .ref p ∧ y = .ref q ∧ SqT K H p (ns.map V.int) ∧ SqT K H q (ms.map V.int) ∧ Q (.bl (!HT.lexLt ns ms)) H
theorem lex_ge : ∀ (ns ms : List Int) (i : Nat) (ns0 ms0 : List Int), i = ns0.length → i = ms0.length →
    Ob.lexAt (fun j => decide ((ns0 ++ ns).getD j 0 = (ms0 ++ ms).getD j 0)) (fun j => decide ((ms0 ++ ms).getD j 0 ≤ (ns0 ++ ns).getD j 0)) (decide ((ms0 ++ ms).length ≤ (ns0 ++ ns).length)) i (min ns.length ms.length) = !HT.lexLt ns ms
  | [], [], i, ns0, ms0, h1, h2 => by
    simp only [List.length_nil, Nat.min_self, Ob.lexAt_zero, HT.lexLt_nil_nil, List.append_nil, Bool.not_false, decide_eq_true_eq]
    omega
  | [], m :: ms, i, ns0, ms0, h1, h2 => by
    simp only [List.length_nil, Nat.zero_min, Ob.lexAt_zero, HT.lexLt_nil_cons, List.length_append, List.length_cons, Bool.not_true, decide_eq_false_iff_not]
    omega
  | n :: ns, [], i, ns0, ms0, h1, h2 => by
    simp only [List.length_nil, Nat.min_zero, Ob.lexAt_zero, HT.lexLt_cons_nil, List.length_append, List.length_cons, Bool.not_false, decide_eq_true_eq]
    omega
  | n :: ns, m :: ms, i, ns0, ms0, h1, h2 => by
    have hm : min (n :: ns).length (m :: ms).length = min ns.length ms.length + 1 := by simp only [List.length_cons]; omega
    have g1 : (ns0 ++ n :: ns).getD i 0 = n := by rw [h1]; simp
    have g2 : (ms0 ++ m :: ms).getD i 0 = m := by rw [h2]; simp
    have ih := lex_ge ns ms (i + 1) (ns0 ++ [n]) (ms0 ++ [m]) (by simp [h1]) (by simp [h2])
    simp only [List.append_assoc, List.cons_append, List.nil_append] at ih
    rw [hm, Ob.lexAt_succ]
    simp only [g1, g2, HT.lexLt_cons]
    by_cases hc : n = m
    · subst hc
      simp only [decide_true, if_true]
      exact ih
    · rw [if_neg (by simpa using hc), if_neg hc]
      by_cases hl : n < m
      · rw [decide_eq_true hl, decide_eq_false (by omega)]; rfl
      · rw [decide_eq_false hl, decide_eq_true (by omega)]; rfl
end
end Sb

set_option Elab.async false
set_option linter.all false
set_option maxRecDepth 100000
/-! More operations: tuples by >=, in, subscripts, is, dicts. -/
namespace Sb
open PySem L2
section
variable {L : Lk} {B : AP} {H : Hp} {X : Cx}
/-! ### dicts -/
theorem getK_val : ∀ {ks us : List D} {kvs : List (Key × V)} {i : Int} {d : D}, keysD ks kvs → Reps L B H us (kvs.map (·.2)) → getK ks us i = some d → ∃ v, valV kvs (Sum.inl i) = some v ∧ Rep L B H d v
  | .int k :: ks, u :: us, (k', v) :: kvs, i, d, hk, hr, e => by
    simp only [keysD] at hk
    obtain ⟨hk1, hk2⟩ := hk
    subst hk1
    simp only [List.map_cons, Reps] at hr
    simp only [getK] at e
    by_cases hi : k = i
    · rw [if_pos hi] at e; cases e; subst hi
      exact ⟨v, valV_pos rfl, hr.1⟩
    · rw [if_neg hi] at e
      obtain ⟨w, e1, r1⟩ := getK_val hk2 hr.2 e
      exact ⟨w, by rw [valV_neg (by intro z; cases z; exact hi rfl)]; exact e1, r1⟩
  | [], _, _, _, _, _, _, e => by simp [getK] at e
  | .int _ :: _, [], _, _, _, _, _, e => by simp [getK] at e
  | .int _ :: _, _ :: _, [], _, _, hk, _, _ => by simp [keysD] at hk
  | .non :: _, _, _, _, _, hk, _, _ => by simp [keysD] at hk
  | .bl _ :: _, _, _, _, _, hk, _, _ => by simp [keysD] at hk
  | .str _ :: _, _, _, _, _, hk, _, _ => by simp [keysD] at hk
  | .tup _ :: _, _, _, _, _, hk, _, _ => by simp [keysD] at hk
  | .lst _ :: _, _, _, _, _, hk, _, _ => by simp [keysD] at hk
  | .dct _ _ :: _, _, _, _, _, hk, _, _ => by simp [keysD] at hk
  | .obj _ _ :: _, _, _, _, _, hk, _, _ => by simp [keysD] at hk
  | .scr _ :: _, _, _, _, _, hk, _, _ => by simp [keysD] at hk
theorem hasK_val : ∀ {ks : List D} {kvs : List (Key × V)} {i : Int}, keysD ks kvs → hasK ks i = (valV kvs (Sum.inl i)).isSome
  | [], [], i, _ => by simp [hasK, valV_nil]
  | .int k :: ks, (k', v) :: kvs, i, hk => by
    simp only [keysD] at hk
    obtain ⟨hk1, hk2⟩ := hk
    subst hk1
    simp only [hasK]
    by_cases hi : k = i
    · subst hi
      rw [valV_pos rfl]; simp
    · rw [valV_neg (by intro z; cases z; exact hi rfl), hasK_val hk2]
      simp [hi]
  | [], _ :: _, _, hk => by simp [keysD] at hk
  | .int _ :: _, [], _, hk => by simp [keysD] at hk
  | .non :: _, _, _, hk => by simp [keysD] at hk
  | .bl _ :: _, _, _, hk => by simp [keysD] at hk
  | .str _ :: _, _, _, hk => by simp [keysD] at hk
  | .tup _ :: _, _, _, hk => by simp [keysD] at hk
  | .lst _ :: _, _, _, hk => by simp [keysD] at hk
  | .dct _ _ :: _, _, _, hk => by simp [keysD] at hk
  | .obj _ _ :: _, _, _, hk => by simp [keysD] at hk
  | .scr _ :: _, _, _, hk => by simp [keysD] at hk
theorem keysD_len : ∀ {ks : List D} {kvs : List (Key × V)}, keysD ks kvs → ks.length = kvs.length
  | [], [], _ => rfl
  | .int k :: ks, (k', v) :: kvs, hk => by simp only [keysD] at hk; simp [keysD_len hk.2]
  | [], _ :: _, hk => by simp [keysD] at hk
  | .int _ :: _, [], hk => by simp [keysD] at hk
  | .non :: _, _, hk => by simp [keysD] at hk
  | .bl _ :: _, _, hk => by simp [keysD] at hk
  | .str _ :: _, _, hk => by simp [keysD] at hk
  | .tup _ :: _, _, hk => by simp [keysD] at hk
  | .lst _ :: _, _, hk => by simp [keysD] at hk
  | .dct _ _ :: _, _, hk => by simp [keysD] at hk
  | .obj _ _ :: _, _, hk => by simp [keysD] at hk
  | .scr _ :: _, _, hk => by simp [keysD] at hk
theorem keysD_app : ∀ {ks : List D} {kvs : List (Key × V)} {i : Int} {v : V}, keysD ks kvs → keysD (ks ++ [.int i]) (kvs ++ [(Sum.inl i, v)])
  | [], [], i, v, _ => by simp [keysD]
  | .int k :: ks, (k', w) :: kvs, i, v, hk => by
    simp only [keysD] at hk
    simp only [List.cons_append, keysD]
    exact ⟨hk.1, keysD_app hk.2⟩
  | [], _ :: _, _, _, hk => by simp [keysD] at hk
  | .int _ :: _, [], _, _, hk => by simp [keysD] at hk
  | .non :: _, _, _, _, hk => by simp [keysD] at hk
  | .bl _ :: _, _, _, _, hk => by simp [keysD] at hk
  | .str _ :: _, _, _, _, hk => by simp [keysD] at hk
  | .tup _ :: _, _, _, _, hk => by simp [keysD] at hk
  | .lst _ :: _, _, _, _, hk => by simp [keysD] at hk
  | .dct _ _ :: _, _, _, _, hk => by simp [keysD] at hk
  | .obj _ _ :: _, _, _, _, hk => by simp [keysD] at hk
  | .scr _ :: _, _, _, _, hk => by simp [keysD] at hk
theorem setK_val : ∀ {ks us : List D} {kvs : List (Key × V)} {i : Int} {d : D} {v : V}, keysD ks kvs → (kvs.map (·.1)).Nodup → Reps L B H us (kvs.map (·.2)) → Rep L B H d v →
    keysD ks (kvs.map fun kv => if kv.1 = Sum.inl i then (kv.1, v) else kv) ∧ Reps L B H (setK ks us i d) ((kvs.map fun kv => if kv.1 = Sum.inl i then (kv.1, v) else kv).map (·.2))
  | [], [], [], i, d, v, _, _, hr, _ => by simp [keysD, setK, Reps]
  | .int k :: ks, u :: us, (k', w) :: kvs, i, d, v, hk, nd, hr, rd => by
    simp only [keysD] at hk
    obtain ⟨hk1, hk2⟩ := hk
    subst hk1
    simp only [List.map_cons, Reps] at hr
    simp only [List.map_cons, List.nodup_cons] at nd
    obtain ⟨h1, h2⟩ := setK_val (i := i) hk2 nd.2 hr.2 rd
    by_cases hi : k = i
    · subst hi
      -- the others bear other keys
      have same : (kvs.map fun kv => if kv.1 = Sum.inl k then (kv.1, v) else kv) = kvs := by
        refine List.map_congr_left (fun kv hkv => ?_) |>.trans (List.map_id _)
        have : kv.1 ≠ Sum.inl k := fun z => nd.1 (z ▸ List.mem_map.mpr ⟨kv, hkv, rfl⟩)
        rw [if_neg this]; rfl
      simp only [List.map_cons, setK, if_pos, keysD, Reps, same]
      exact ⟨⟨trivial, hk2⟩, rd, hr.2⟩
    · have ne : ¬ ((Sum.inl k : Key) = Sum.inl i) := fun z => hi (Sum.inl.inj z)
      simp only [List.map_cons, setK, if_neg hi, if_neg ne, keysD, Reps]
      exact ⟨⟨trivial, h1⟩, hr.1, h2⟩
  | [], _ :: _, [], _, _, _, _, _, hr, _ => by simp [Reps] at hr
  | [], _, _ :: _, _, _, _, hk, _, _, _ => by simp [keysD] at hk
  | .int _ :: _, [], _ :: _, _, _, _, _, _, hr, _ => by simp [Reps] at hr
  | .int _ :: _, _, [], _, _, _, hk, _, _, _ => by simp [keysD] at hk
  | .non :: _, _, _, _, _, _, hk, _, _, _ => by simp [keysD] at hk
  | .bl _ :: _, _, _, _, _, _, hk, _, _, _ => by simp [keysD] at hk
  | .str _ :: _, _, _, _, _, _, hk, _, _, _ => by simp [keysD] at hk
  | .tup _ :: _, _, _, _, _, _, hk, _, _, _ => by simp [keysD] at hk
  | .lst _ :: _, _, _, _, _, _, hk, _, _, _ => by simp [keysD] at hk
  | .dct _ _ :: _, _, _, _, _, _, hk, _, _, _ => by simp [keysD] at hk
  | .obj _ _ :: _, _, _, _, _, _, hk, _, _, _ => by simp [keysD] at hk
  | .scr _ :: _, _, _, _, _, _, hk, _, _, _ => by simp [keysD] at hk
theorem putK_val {ks us : List D} {kvs : List (Key × V)} {i : Int} {d : D} {v : V} (hk : keysD ks kvs) (nd : (kvs.map (·.1)).Nodup) (hr : Reps L B H us (kvs.map (·.2))) (rd : Rep L B H d v) :
    keysD (putK ks us i d).1 (L2.putK kvs (Sum.inl i) v) ∧ ((L2.putK kvs (Sum.inl i) v).map (·.1)).Nodup ∧ Reps L B H (putK ks us i d).2 ((L2.putK kvs (Sum.inl i) v).map (·.2)) := by
  unfold putK L2.putK
  have hh : hasK ks i = kvs.any fun kv => decide (kv.1 = (Sum.inl i : Key)) := by rw [hasK_val hk, ← valV_any]
  rw [hh]
  by_cases ha : (kvs.any fun kv => decide (kv.1 = (Sum.inl i : Key))) = true
  · rw [if_pos ha, if_pos ha]
    obtain ⟨h1, h2⟩ := setK_val (i := i) hk nd hr rd
    refine ⟨h1, ?_, h2⟩
    have : (kvs.map fun kv => if kv.1 = (Sum.inl i : Key) then (kv.1, v) else kv).map (·.1) = kvs.map (·.1) := by
      rw [List.map_map]
      refine List.map_congr_left fun kv _ => ?_
      simp only [Function.comp]
      split <;> rfl
    rw [this]
    exact nd
  · rw [if_neg ha, if_neg ha]
    refine ⟨keysD_app hk, ?_, ?_⟩
    · rw [List.map_append]
      refine List.nodup_append.mpr ⟨nd, by simp, fun a ha1 b hb => ?_⟩
      rintro rfl
      simp only [List.map_cons, List.map_nil, List.mem_singleton] at hb
      subst hb
      obtain ⟨kv, h1, h2⟩ := List.mem_map.mp ha1
      exact ha (List.any_eq_true.mpr ⟨kv, h1, decide_eq_true h2⟩)
    · rw [List.map_append]
      exact hr.app (.one rd)
theorem root_dct {v : V} {ks us : List D} (h : Root L B H (.dct ks us) v) : ∃ p kvs, v = .ref p ∧ H p = some (.dK kvs) ∧ keysD ks kvs ∧ (kvs.map (·.1)).Nodup ∧ Reps L B H us (kvs.map (·.2)) := h
theorem root_lst {v : V} {ds : List D} (h : Root L B H (.lst ds) v) : ∃ p vs, v = .ref p ∧ H p = some (.lst vs) ∧ Reps L B H ds vs := h

/-! ### in -/
def rInT (neg : Bool) (K : PySem.W.Frag) : R2 := fun x y H Q => ∃ d ds, Dp K H x d ∧ Dp K H y (.tuple ds) ∧ SeqAt.shaped d = true ∧ SeqAt.shaped (.tuple ds) = true ∧ Q (.bl (neg != ds.any fun z => PyData.eqv z d)) H
theorem op_inT (hu : X.A.units + 65 < cLine) : OpR X (compareOp .In) (rInT false X.K) := by
  intro pins s σ H x y v u Q I rx ry ⟨d, ds, hd, he, sd, se, q⟩
  obtain ⟨as, r1⟩ := hd.reads I d x v rx
  obtain ⟨bs, r2⟩ := he.reads I (.tuple ds) y u ry
  refine SeqAt.in_tuple_reads r2 r1 (SeqAt.canLay_of_shaped se) (SeqAt.canLay_of_shaped sd) (PyProof.Rows.room_in_shaped sd hu) ⟨.bl _, H, I, rfl, ?_⟩
  simpa using q
theorem op_ninT (hu : X.A.units + 65 < cLine) : OpR X (compareOp .NotIn) (rInT true X.K) := by
  intro pins s σ H x y v u Q I rx ry ⟨d, ds, hd, he, sd, se, q⟩
  obtain ⟨as, r1⟩ := hd.reads I d x v rx
  obtain ⟨bs, r2⟩ := he.reads I (.tuple ds) y u ry
  refine SeqAt.notIn_tuple_reads r2 r1 (SeqAt.canLay_of_shaped se) (SeqAt.canLay_of_shaped sd) (PyProof.Rows.room_in_shaped sd hu) ⟨.bl _, H, I, rfl, ?_⟩
  simpa using q
def rInK (neg : Bool) : R2 := fun x y H Q => ∃ p o, y = .ref p ∧ DGet H p x o ∧ Q (.bl (neg != o.isSome)) H
theorem op_inK (hu : X.A.units + 1 < cLine) : OpR X (compareOp .In) (rInK false) := by
  intro pins s σ H x y v u Q I rx ry ⟨p, o, ey, g, q⟩
  subst ey
  cases ry
  exact d_in hu I g rx fun s' I' => ⟨.bl _, H, I', rfl, by simpa using q⟩
theorem op_ninK (hu : X.A.units + 1 < cLine) : OpR X (compareOp .NotIn) (rInK true) := by
  intro pins s σ H x y v u Q I rx ry ⟨p, o, ey, g, q⟩
  subst ey
  cases ry
  exact d_notIn hu I g rx fun s' I' => ⟨.bl _, H, I', rfl, by simpa using q⟩
def rIn1 (K : PySem.W.Frag) : R2 := fun x y H Q => (rInD K x y H Q ∨ rInT false K x y H Q) ∨ rInK false x y H Q
def rIn2 (K : PySem.W.Frag) : R2 := fun x y H Q => (rNotInD K x y H Q ∨ rInT true K x y H Q) ∨ rInK true x y H Q
theorem op_in1 (hu : X.A.units + 65 < cLine) : OpR X (compareOp .In) (rIn1 X.K) := ((op_inD hu).or (op_inT hu)).or (op_inK (by omega))
theorem op_in2 (hu : X.A.units + 65 < cLine) : OpR X (compareOp .NotIn) (rIn2 X.K) := ((op_notInD hu).or (op_ninT hu)).or (op_ninK (by omega))
theorem any_py {n m : Nat} {a : D} (ha : eqOk n a = true) : ∀ {ds : List D}, (∀ x ∈ ds, eqOk m x = true) → (ds.any fun y => eqD y a) = (toPys ds).any fun z => PyData.eqv z (toPy a)
  | [], _ => by simp [toPys]
  | d :: ds, h => by
    simp only [toPys, List.any_cons]
    rw [eqD_py d a m n (h d List.mem_cons_self) ha, any_py ha fun z hz => h z (List.mem_cons_of_mem _ hz)]
theorem pys_shaped {ds : List D} (h : ∀ x ∈ ds, eqOk 20 x = true) : SeqAt.shaped (.list (toPys ds)) = true ∧ SeqAt.shaped (.tuple (toPys ds)) = true := by
  obtain ⟨h1, h2⟩ := pys_lay ds 20 h
  unfold SeqAt.shaped
  simp only [PyData.canLay0, PyData.depth, Bool.and_eq_true, decide_eq_true_eq]
  have h3 : PyData.depthAll (toPys ds) + 1 ≤ 64 := Nat.le_trans (Nat.succ_le_succ h2) (by decide)
  exact ⟨⟨h1, decide_eq_true h3⟩, h1, decide_eq_true h3⟩
theorem s_cont {neg : Bool} {r1 r2 : R2} (h1 : ∀ x y H Q d ds, Dp L.K H x d → Dp L.K H y (.list ds) → SeqAt.shaped d = true → SeqAt.shaped (.list ds) = true → Q (.bl (neg != ds.any fun z => PyData.eqv z d)) H → r1 x y H Q)
    {a b : D} {z : FD} {x y : V} {Q : VK} (hx : Root L B H a x) (hy : Root L B H b y) (e : contD neg a b = some z) (k : ∀ v H', OpPost L B H z.1 z.2 v H' → Q v H') :
    (r1 x y H Q ∨ rInT neg L.K x y H Q) ∨ rInK neg x y H Q := by
  cases b <;> simp only [contD, reduceCtorEq] at e
  · rename_i ds
    split at e
    · rename_i h
      simp only [Bool.and_eq_true, List.all_eq_true] at h
      cases e
      have hy' : Dp L.K H y (.tuple (toPys ds)) := by
        obtain ⟨p, vs, ey, hp, r⟩ := root_tup hy
        subst ey
        exact .tup hp (reps_dp (B := B) h.2 r)
      refine .inl (.inr ⟨_, _, root_dp (B := B) h.1 hx, hy', py_shaped h.1, (pys_shaped h.2).2, ?_⟩)
      rw [← any_py h.1 h.2]
      exact k _ _ (post_same rep_bl)
    · cases e
  · rename_i ds
    split at e
    · rename_i h
      simp only [Bool.and_eq_true, List.all_eq_true] at h
      cases e
      have hy' : Dp L.K H y (.list (toPys ds)) := by
        obtain ⟨p, vs, ey, hp, r⟩ := root_lst hy
        subst ey
        exact .lst (.of hp) (reps_dp (B := B) h.2 r)
      refine .inl (.inl (h1 _ _ _ _ _ _ (root_dp (B := B) h.1 hx) hy' (py_shaped h.1) (pys_shaped h.2).1 ?_))
      rw [← any_py h.1 h.2]
      exact k _ _ (post_same rep_bl)
    · cases e
  · rename_i ks us
    cases a <;> simp only [reduceCtorEq] at e
    cases e
    rename_i i
    obtain ⟨p, kvs, ey, hp, hk, nd, r⟩ := root_dct hy
    refine .inr ⟨p, _, ey, by rw [root_int hx]; exact DGet.k (k := Sum.inl i) hp, ?_⟩
    rw [← hasK_val hk]
    exact k _ _ (post_same rep_bl)
theorem s_inn : Op2S L (rIn1 L.K) .inn := by
  intro B H x y a b z Q hx hy e k
  exact s_cont (r1 := rInD L.K) (r2 := rInD L.K) (fun x y H Q d ds h1 h2 h3 h4 q => ⟨d, ds, h1, h2, h3, h4, by simpa using q⟩) hx hy e k
theorem s_nin : Op2S L (rIn2 L.K) .nin := by
  intro B H x y a b z Q hx hy e k
  exact s_cont (r1 := rNotInD L.K) (r2 := rNotInD L.K) (fun x y H Q d ds h1 h2 h3 h4 q => ⟨d, ds, h1, h2, h3, h4, by simpa using q⟩) hx hy e k

/-! ### subscripts -/
def rIxK : R2 := fun x y H Q => ∃ p v, x = .ref p ∧ DGet H p y (some v) ∧ Q v H
theorem ix_dct (hu : X.A.units + 1 < cLine) : IxR X rIxK := by
  intro value slice pins s σ H x y v u Q I rx ry ⟨p, w, ex, g, q⟩ hs
  subst ex
  cases rx
  exact PyProof.Rows.tail_any (dict_typeIs I g) PySem.F.slot_dict_getitem.lookup (d_getItem hu I g ry fun w' s' I' rw' => ⟨w, H, I', rw', q⟩) hs
def rIxG (K : PySem.W.Frag) : R2 := fun x y H Q => rIx K x y H Q ∨ rIxK x y H Q
theorem ix_any (hu : X.A.units + 1 < cLine) : IxR X (rIxG X.K) := ix_seq.or (ix_dct hu)
theorem Reps.at {ds : List D} {vs : List V} {i : Int} {d : D} (h : Reps L B H ds vs) (e : atD ds i = some d) : ∃ v, atI vs i = some v ∧ Rep L B H d v := by
  unfold atD atI at *
  rw [← h.len]
  cases q : ixN ds.length i with
  | none => rw [q] at e; cases e
  | some j =>
    rw [q] at e
    exact h.get e
theorem s_idx : Op2S L (rIxG L.K) .idx := by
  intro B H x y a b z Q hx hy e k
  cases a <;> cases b <;> simp only [op2D, reduceCtorEq, Option.map_eq_some_iff] at e
  · rename_i s i
    split at e
    · rename_i hl
      simp only [Option.map_eq_some_iff] at e
      obtain ⟨c, ec, rfl⟩ := e
      exact .inl (.inr (.inr ⟨s, i, c, root_str hx, root_int hy, lim_line hl, ec, k _ _ (post_same rep_str)⟩))
    · cases e
  · obtain ⟨d, ed, rfl⟩ := e
    obtain ⟨p, vs, ex, hp, r⟩ := root_tup hx
    obtain ⟨v, ev, rv⟩ := r.at ed
    exact .inl (.inr (.inl ⟨p, vs, _, v, ex, root_int hy, hp, ev, k _ _ (post_same rv)⟩))
  · obtain ⟨d, ed, rfl⟩ := e
    obtain ⟨p, vs, ex, hp, r⟩ := root_lst hx
    obtain ⟨v, ev, rv⟩ := r.at ed
    exact .inl (.inl ⟨p, vs, _, v, ex, root_int hy, .of hp, ev, k _ _ (post_same rv)⟩)
  · rename_i ks us i
    obtain ⟨d, ed, rfl⟩ := e
    obtain ⟨p, kvs, ex, hp, hk, nd, r⟩ := root_dct hx
    obtain ⟨v, ev, rv⟩ := getK_val hk r ed
    refine .inr ⟨p, v, ex, ?_, k _ _ (post_same rv)⟩
    rw [root_int hy, ← ev]
    exact DGet.k (k := Sum.inl i) hp

/-! ### is -/
def rIs1 : R2 := fun x y H Q => (y = .non ∧ Q (.bl (decide (x = .non))) H) ∨ rIsB x y H Q
def rIs2 : R2 := fun x y H Q => (y = .non ∧ Q (.bl (!decide (x = .non))) H) ∨ rNotB x y H Q
theorem op_is1 : OpR X (compareOp .Is) rIs1 := op_isN.or op_isBl
theorem op_is2 : OpR X (compareOp .IsNot) rIs2 := op_notN.or op_notBl
theorem root_isnon {a : D} {x : V} (h : Root L B H a x) : decide (x = .non) = isNon a := by
  cases a with
  | non => rw [root_non h]; rfl
  | bl _ => rw [root_bl h]; rfl
  | int _ => rw [root_int h]; rfl
  | str _ => rw [root_str h]; rfl
  | tup _ => obtain ⟨p, _, e, _⟩ := root_tup h; rw [e]; rfl
  | lst _ => obtain ⟨p, _, e, _⟩ := root_lst h; rw [e]; rfl
  | dct _ _ => obtain ⟨p, _, e, _⟩ := root_dct h; rw [e]; rfl
  | obj _ _ => obtain ⟨p, _, _, e, _⟩ := h; rw [e]; rfl
  | scr _ => simp only [Root, Rep] at h; obtain ⟨p, _, e, _⟩ := h; rw [e]; rfl
theorem s_is : Op2S L rIs1 .is_ := by
  intro B H x y a b z Q hx hy e k
  cases b <;> simp only [op2D, reduceCtorEq] at e
  · cases e
    refine .inl ⟨root_non hy, ?_⟩
    rw [root_isnon hx]
    exact k _ _ (post_same rep_bl)
  · rename_i c
    cases a <;> simp only [reduceCtorEq] at e
    cases e
    rename_i d
    refine .inr ⟨d, c, root_bl hx, root_bl hy, ?_⟩
    have : decide (d = c) = (c == d) := by cases d <;> cases c <;> rfl
    rw [this]
    exact k _ _ (post_same rep_bl)
theorem s_isnt : Op2S L rIs2 .isnt := by
  intro B H x y a b z Q hx hy e k
  cases b <;> simp only [op2D, reduceCtorEq] at e
  · cases e
    refine .inl ⟨root_non hy, ?_⟩
    rw [root_isnon hx]
    exact k _ _ (post_same rep_bl)
  · rename_i c
    cases a <;> simp only [reduceCtorEq] at e
    cases e
    rename_i d
    refine .inr ⟨d, c, root_bl hx, root_bl hy, ?_⟩
    have : decide (d = c) = (c == d) := by cases d <;> cases c <;> rfl
    rw [this]
    exact k _ _ (post_same rep_bl)
/-! ### tuples by >= -/
def rGe (K : PySem.W.Frag) : R2 := fun x y H Q => (rI0 fun i j => .bl (decide (j ≤ i))) x y H Q ∨ rGeT K x y H Q
theorem op_geT (hu : X.A.units < cLine) : OpR X (compareOp .GtE) (rGeT X.K) := by
  intro pins s σ H x y v u Q I rx ry ⟨p, q, ns, ms, ex, ey, hp, hq, k⟩
  subst ex; subst ey
  cases rx; cases ry
  obtain ⟨us, v1, t1, z1⟩ := I.tuple hp
  obtain ⟨ws, v2, t2, z2⟩ := I.tuple hq
  have i1 := intsAre_of v1
  have i2 := intsAre_of v2
  have s1 : us.toArray.size = ns.length := by rw [List.size_toArray, i1.length]
  have s2 : ws.toArray.size = ms.length := by rw [List.size_toArray, i2.length]
  have g1 : ∀ j (h : j < us.toArray.size), ∃ t, us.toArray[j] = Value.int (ns.getD j 0) t := fun j h => by
    have h' : j < us.length := by simpa using h
    exact PyProof.Rows.IntsAre.int_at i1 _ _ (by simp [h'])
  have g2 : ∀ j (h : j < ws.toArray.size), ∃ t, ws.toArray[j] = Value.int (ms.getD j 0) t := fun j h => by
    have h' : j < ws.length := by simpa using h
    exact PyProof.Rows.IntsAre.int_at i2 _ _ (by simp [h'])
  have key := Ob.RcOp.tuples_ge (A := X.A) (s := s) (e := fun j => decide (ns.getD j 0 = ms.getD j 0)) (r := fun j => decide (ms.getD j 0 ≤ ns.getD j 0)) t1 t2 hu
    (fun j a b => by
      obtain ⟨t, e⟩ := g1 j a
      obtain ⟨t', e'⟩ := g2 j b
      rw [e, e', show decide (ns.getD j 0 = ms.getD j 0) = (ns.getD j 0 == ms.getD j 0) from by rw [Bool.eq_iff_iff]; simp]
      exact SeqAt.EqAt.int_int _ _ _ _)
    (fun j a b _ => by
      obtain ⟨t, e⟩ := g1 j a
      obtain ⟨t', e'⟩ := g2 j b
      rw [e, e']
      exact Ob.RcOp.ge_int _ _ _ _)
  have le := lex_ge ns ms 0 [] [] rfl rfl
  simp only [List.nil_append] at le
  rw [s1, s2, le] at key
  exact key X.prog X.w X.xe _ ⟨.bl _, H, I, rfl, k⟩
theorem op_geG (hu : X.A.units < cLine) : OpR X (compareOp .GtE) (rGe X.K) := op_ge.or (op_geT hu)
theorem s_ge : Op2S L (rGe L.K) .ge := by
  intro B H x y a b z Q hx hy e k
  cases a <;> cases b <;> simp only [op2D, reduceCtorEq] at e
  · cases e
    exact .inl ⟨_, _, root_int hx, root_int hy, k _ _ (post_same rep_bl)⟩
  · rename_i ds es
    cases q1 : intsOf ds with
    | none => rw [q1] at e; cases e
    | some m => cases q2 : intsOf es with
      | none => rw [q1, q2] at e; cases e
      | some n =>
        rw [q1, q2] at e
        cases e
        obtain ⟨p, ex, hp⟩ := root_ints q1 hx
        obtain ⟨q, ey, hq⟩ := root_ints q2 hy
        exact .inr ⟨p, q, m, n, ex, ey, hp, hq, k _ _ (post_same rep_bl)⟩
end
end Sb

set_option Elab.async false
set_option linter.all false
set_option maxRecDepth 100000
/-! Calls of built-ins with one argument. -/
namespace Sb
open PySem L2
def Call1S (L : Lk) (r : List V → Hp → VK → Prop) (o : Op1) : Prop := ∀ (B : AP) (H : Hp) (x : V) (a : D) (z : FD) (Q : VK), Root L B H a x → op1D o a = some z → (∀ v H', OpPost L B H z.1 z.2 v H' → Q v H') → r [x] H Q
section
variable {L : Lk} {B : AP} {H : Hp} {X : Cx}
theorem CallR.or {f : Value} {r r' : List V → Hp → VK → Prop} (h : CallR X f r) (h' : CallR X f r') : CallR X f (fun x H Q => r x H Q ∨ r' x H Q) := by
  intro pins s σ H xs us Q I rx q
  rcases q with q | q
  · exact h pins s σ H xs us Q I rx q
  · exact h' pins s σ H xs us Q I rx q
/-- len -/
def rLenK : List V → Hp → VK → Prop := fun xs H Q => ∃ p kvs, xs = [.ref p] ∧ H p = some (.dK kvs) ∧ Q (.int kvs.length) H
theorem call_lenK : CallR X (.builtin "len") rLenK := by
  intro pins s σ H xs us Q I rx ⟨p, kvs, ex, hp, q⟩
  subst ex
  rw [Vals.ref1 rx]
  exact d_len I (.of hp) fun t s' I' => ⟨.int kvs.length, H, I', ⟨t, rfl⟩, q⟩
def rLen (K : PySem.W.Frag) : List V → Hp → VK → Prop := fun xs H Q => (∃ x n, xs = [x] ∧ LenV K x H n ∧ Q (.int n) H) ∨ rLenK xs H Q
theorem call_lenG : CallR X (.builtin "len") (rLen X.K) := CallR.or call_len call_lenK
theorem c_len : Call1S L (rLen L.K) .len := by
  intro B H x a z Q hx e k
  cases a <;> simp only [op1D, reduceCtorEq] at e
  · split at e
    · cases e
      rename_i s h
      exact .inl ⟨_, s.length, rfl, by rw [root_str hx]; exact ⟨lim_line h, rfl⟩, k _ _ (post_same rep_int)⟩
    · cases e
  · cases e
    obtain ⟨p, vs, ex, hp, r⟩ := root_tup hx
    refine .inl ⟨_, vs.length, rfl, by rw [ex]; exact .inr ⟨vs, hp, rfl⟩, ?_⟩
    rw [← r.len]
    exact k _ _ (post_same rep_int)
  · cases e
    obtain ⟨p, vs, ex, hp, r⟩ := root_lst hx
    refine .inl ⟨_, vs.length, rfl, by rw [ex]; exact .inl ⟨vs, .of hp, rfl⟩, ?_⟩
    rw [← r.len]
    exact k _ _ (post_same rep_int)
  · cases e
    obtain ⟨p, kvs, ex, hp, hk, nd, r⟩ := root_dct hx
    refine .inr ⟨p, kvs, by rw [ex], hp, ?_⟩
    rw [← keysD_len hk]
    exact k _ _ (post_same rep_int)
theorem c_int : Call1S L (fun xs H Q => (∃ i, xs = [.int i] ∧ Q (.int i) H) ∨ ∃ k, xs = [.bl k] ∧ Q (.int (if k then 1 else 0)) H) .int_ := by
  intro B H x a z Q hx e k
  cases a <;> simp only [op1D, reduceCtorEq] at e
  · cases e
    exact .inr ⟨_, by rw [root_bl hx], k _ _ (post_same rep_int)⟩
  · cases e
    exact .inl ⟨_, by rw [root_int hx], k _ _ (post_same rep_int)⟩
theorem log2_small {i : Int} (h : i.natAbs < 10 ^ 60) : i.natAbs.log2 < 1920 := by
  by_cases h0 : i.natAbs = 0
  · rw [h0]; decide
  · exact (Nat.log2_lt h0).mpr (Nat.lt_of_lt_of_le h (by decide))
theorem c_str : Call1S L (fun xs H Q => ∃ i, xs = [.int i] ∧ i.natAbs.log2 < 1920 ∧ Q (.str (toString i)) H) .str_ := by
  intro B H x a z Q hx e k
  cases a <;> simp only [op1D, reduceCtorEq] at e
  split at e
  · rename_i h
    cases e
    exact ⟨_, by rw [root_int hx], log2_small h, k _ _ (post_same rep_str)⟩
  · cases e
/-- list(xs), tuple(xs) -/
def rToL (K : PySem.W.Frag) : List V → Hp → VK → Prop := fun xs H Q => ∃ p ys, xs = [.ref p] ∧ (SqL K H p ys ∨ SqT K H p ys) ∧ ∀ q, H q = none → Q (.ref q) (upd H q (.lst ys))
end
end Sb

set_option Elab.async false
set_option linter.all false
set_option maxRecDepth 100000
/-! Slots written; the small expressions. -/
namespace Sb
open PySem L2
section
variable {L : Lk} {fl : List Bool} {A A1 : AP} {H H' : Hp} {σ σ' : L2.St} {env : Env} {os : OS} {W : WX} {C : Cal} {sub : Nat → Nat → Bool} {X : Cx}
theorem own_set {os : OS} {i : Nat} {o : List Addr} {a : Addr} (h : Own (os.set i o) a) : (∃ j o', j ≠ i ∧ os[j]? = some o' ∧ a ∈ o') ∨ a ∈ o := by
  obtain ⟨j, o', h1, h2⟩ := h
  by_cases e : j = i
  · subst e
    rw [List.getElem?_set] at h1
    split at h1
    · split at h1
      · cases h1; exact .inr h2
      · cases h1
    · exact absurd rfl (by assumption)
  · rw [List.getElem?_set_ne (by omega)] at h1
    exact .inl ⟨j, o', e, h1, h2⟩
/-- one slot written anew -/
theorem EnvRep.put' {i : Nat} {t s' : Slot} {o' : List Addr} {v' : Option V} (r : EnvRep L fl A1 H σ env os) (hi : env[i]? = some t) (hp : s'.pin = t.pin) (hA : ∀ a, A a → Av A1 os a) (hdm : ∀ a, A a → H a ≠ none) (hdj : ∀ a, A a → ∀ j o, j ≠ i → os[j]? = some o → a ∉ o)
    (hl : σ'.length = σ.length) (h1 : ∀ j, j ≠ i → σ'[j]? = σ[j]?) (h2 : σ'[i]? = some v')
    (hav : ∀ a ∈ o', Av A1 os a) (hd : ∀ a ∈ o', ¬ A a) (hu : ∀ a ∈ o', ∀ j o, j ≠ i → os[j]? = some o → a ∉ o)
    (hs : SlotRep L (Av A (os.set i o')) H v' s' o') : EnvRep L fl A H σ' (env.set i s') (os.set i o') := by
  have hlt : i < env.length := (List.getElem?_eq_some_iff.mp hi).1
  have sub : ∀ a, Av A (os.set i o') a → Av A1 os a := fun a ha => by
    rcases ha with ha | ha
    · exact hA a ha
    · rcases own_set ha with ⟨j, o, _, h3, h4⟩ | h3
      · exact .inr ⟨j, o, h3, h4⟩
      · exact hav a h3
  refine ⟨by rw [List.length_set, r.le, hl], by rw [List.length_set, List.length_set, r.lo], ?_, fun j s hj => ?_, fun j k o o2 a hj hk ha hb => ?_, fun a ha hb => ?_, hdm, r.tab⟩
  · rw [← r.fl, List.map_set, hp]
    refine List.ext_getElem? fun j => ?_
    rw [List.getElem?_set]
    split
    · rename_i e
      subst e
      rw [List.length_map, if_pos hlt, List.getElem?_map, hi]; rfl
    · rfl
  · by_cases e : j = i
    · subst e
      rw [List.getElem?_set_self hlt] at hj
      cases hj
      exact ⟨v', o', h2, List.getElem?_set_self (by rw [r.lo]; exact hlt), hs⟩
    · rw [List.getElem?_set_ne (by omega)] at hj
      obtain ⟨v, o, a1, a2, a3⟩ := r.rep j s hj
      exact ⟨v, o, by rw [h1 j e]; exact a1, by rw [List.getElem?_set_ne (by omega)]; exact a2, a3.more fun a ha => .inl (sub a ha)⟩
  · by_cases e : j = i
    · by_cases e2 : k = i
      · rw [e, e2]
      · subst e
        rw [List.getElem?_set_self (by rw [r.lo]; exact hlt)] at hj
        rw [List.getElem?_set_ne (by omega)] at hk
        cases hj
        exact absurd hb (hu a ha k o2 e2 hk)
    · rw [List.getElem?_set_ne (by omega)] at hj
      by_cases e2 : k = i
      · subst e2
        rw [List.getElem?_set_self (by rw [r.lo]; exact hlt)] at hk
        cases hk
        exact absurd ha (hu a hb j o e hj)
      · rw [List.getElem?_set_ne (by omega)] at hk
        exact r.uq j k o o2 a hj hk ha hb
  · rcases own_set hb with ⟨j, o, hj, h3, h4⟩ | h3
    · exact hdj a ha j o hj h3 h4
    · exact hd a h3 ha
theorem EnvRep.put {i : Nat} {t s' : Slot} {o' : List Addr} {v' : Option V} (r : EnvRep L fl A1 H σ env os) (hi : env[i]? = some t) (hp : s'.pin = t.pin) (hA : ∀ a, A a → A1 a)
    (hl : σ'.length = σ.length) (h1 : ∀ j, j ≠ i → σ'[j]? = σ[j]?) (h2 : σ'[i]? = some v')
    (hav : ∀ a ∈ o', Av A1 os a) (hd : ∀ a ∈ o', ¬ A a) (hu : ∀ a ∈ o', ∀ j o, j ≠ i → os[j]? = some o → a ∉ o)
    (hs : SlotRep L (Av A (os.set i o')) H v' s' o') : EnvRep L fl A H σ' (env.set i s') (os.set i o') :=
  r.put' hi hp (fun a h => .inl (hA a h)) (fun a h => r.dm a (hA a h)) (fun a h j o _ ho hm => r.dj a (hA a h) ⟨j, o, ho, hm⟩) hl h1 h2 hav hd hu hs
theorem sub_set {i : Nat} {o' o : List Addr} (h : os[i]? = some o) (hs : ∀ a ∈ o', a ∈ o) : Sub (os.set i o') os := fun j o2 e => by
  by_cases q : j = i
  · subst q
    rw [List.getElem?_set] at e
    split at e
    · split at e
      · cases e; exact ⟨o, h, hs⟩
      · cases e
    · exact absurd rfl (by assumption)
  · rw [List.getElem?_set_ne (by omega)] at e
    exact ⟨o2, e, fun _ z => z⟩
/-- what is read out of an own slot is its own no more -/
theorem EnvRep.frz {i : Nat} {p : Bool} {d : D} (r : EnvRep L fl A H σ env os) (hi : env[i]? = some (.own p d)) :
    ∃ v, σ[i]? = some (some v) ∧ EnvRep L fl A H σ (env.set i (.shr p d)) (os.set i []) ∧ Sub (os.set i []) os ∧ Rep L (Av A (os.set i [])) H d v := by
  obtain ⟨v, o, h1, h2, q, e1, e2, h3⟩ := r.rep i _ hi
  subst e1; subst e2
  have nq : ¬ Av A (os.set i []) q := fun z => by
    rcases z with z | z
    · exact r.dj q z ⟨i, _, h2, List.mem_cons_self⟩
    · rcases own_set z with ⟨j, o, hj, h4, h5⟩ | h4
      · exact hj (r.uq j i o _ q h4 h2 h5 List.mem_cons_self)
      · cases h4
  have sb : ∀ a, Av A (os.set i []) a → Av A os a := fun a ha => by
    rcases ha with ha | ha
    · exact .inl ha
    · rcases own_set ha with ⟨j, o, _, h4, h5⟩ | h4
      · exact .inr ⟨j, o, h4, h5⟩
      · cases h4
  have rp : Rep L (Av A (os.set i [])) H d (.ref q) := (h3.more fun a ha => .inl (sb a ha)).rep nq
  refine ⟨.ref q, h1, r.put (A := A) hi rfl (fun _ z => z) rfl (fun _ _ => rfl) h1 (fun a h => by cases h) (fun a h => by cases h) (fun a h => by cases h) ⟨rfl, _, rfl, rp⟩, sub_set h2 (fun a h => by cases h), rp⟩
theorem pv_same {d : D} {v : V} (r : EnvRep L fl A H σ env os) (h : Rep L (Av A os) H d v) : PV L fl A H σ os (.shr, d) env v H os := ⟨Sub.refl _, Pr.refl _, r, h⟩
/-! ### constants, names -/
theorem t_cst {d : D} {v : V} (hd : ∀ B H, Rep L B H d v) : ∀ σ H Q, TEv C sub L W (.cst d) σ H Q → tC v σ H Q := fun σ H Q ⟨fl, A, env, os, r, h⟩ => by
  rw [evE] at h
  exact h v H os (pv_same r (hd _ _))
theorem t_var {i : Nat} : ∀ σ H Q, TEv C sub L W (.var i) σ H Q → tVar i σ H Q := fun σ H Q ⟨fl, A, env, os, r, h⟩ => by
  rw [evE] at h
  unfold frzS at h
  cases e : env[i]? with
  | none => rw [e] at h; exact h.elim
  | some s => cases s with
    | no => rw [e] at h; exact h.elim
    | shr p d =>
      rw [e] at h
      obtain ⟨v, o, h1, h2, h3, x, h4, h5⟩ := r.rep i _ e
      subst h4
      exact ⟨x, h1, h x H os (pv_same r h5)⟩
    | own p d =>
      rw [e] at h
      obtain ⟨v, h1, r2, s2, h5⟩ := r.frz e
      exact ⟨v, h1, h v H _ ⟨s2, Pr.refl _, r2, h5⟩⟩
theorem t_pk {i : Nat} : ∀ σ H Q, TEv C sub L W (.pk i) σ H Q → tVar i σ H Q := fun σ H Q ⟨fl, A, env, os, r, h⟩ => by
  rw [evE] at h
  cases e : env[i]? with
  | none => rw [e] at h; exact h.elim
  | some s => cases e2 : s.cont with
    | none => simp only [e, e2] at h; exact h.elim
    | some d =>
      simp only [e, e2] at h
      obtain ⟨x, h1, h2⟩ := r.at e e2
      exact ⟨x, h1, h x H os ⟨Sub.refl _, Pr.refl _, r, h1, s, e, e2⟩⟩
/-! ### and, or, if -/
theorem pv_bl {env1 : Env} {v : V} {H1 : Hp} {os1 : OS} {b : Bool} (p : PV L fl A H σ os (.shr, .bl b) env1 v H1 os1) : v = .bl b := by
  have := p.2.2.2
  simpa only [Rep] using this
theorem t_and {a b : IE} : ∀ σ H Q, TEv C sub L W (.and2 a b) σ H Q → tAndV (TEv C sub L W a) (TEv C sub L W b) σ H Q := fun σ H Q ⟨fl, A, env, os, r, h⟩ => by
  rw [evE] at h
  refine TEv.go shf_V r h fun x env1 v H1 os1 p1 r1 st1 w1 => ?_
  split at w1
  · exact ⟨true, pv_bl p1, by rw [if_pos rfl]; exact ⟨_, _, _, _, r1, w1⟩⟩
  · refine ⟨false, pv_bl p1, ?_⟩
    rw [if_neg (by decide)]
    exact w1 _ _ _ (pv_same r1 rep_bl)
  · exact w1.elim
theorem t_or {a b : IE} : ∀ σ H Q, TEv C sub L W (.or2 a b) σ H Q → tOrV (TEv C sub L W a) (TEv C sub L W b) σ H Q := fun σ H Q ⟨fl, A, env, os, r, h⟩ => by
  rw [evE] at h
  refine TEv.go shf_V r h fun x env1 v H1 os1 p1 r1 st1 w1 => ?_
  split at w1
  · refine ⟨true, pv_bl p1, ?_⟩
    rw [if_pos rfl]
    exact w1 _ _ _ (pv_same r1 rep_bl)
  · exact ⟨false, pv_bl p1, by rw [if_neg (by decide)]; exact ⟨_, _, _, _, r1, w1⟩⟩
  · exact w1.elim
theorem t_ite {c : IT} {a b : IE} : ∀ σ H Q, TEv C sub L W (.ite c a b) σ H Q → tIf (TTv C sub L W c) (TEv C sub L W a) (TEv C sub L W b) σ H Q := fun σ H Q ⟨fl, A, env, os, r, h⟩ => by
  rw [evE] at h
  refine TTv.go shf_V r h fun k env1 H1 os1 r1 st1 w1 => ?_
  cases k with
  | true => rw [if_pos rfl] at w1 ⊢; exact ⟨_, _, _, _, r1, w1⟩
  | false => rw [if_neg (by decide)] at w1 ⊢; exact ⟨_, _, _, _, r1, w1⟩
theorem ap2_n1 {o : Op2} {x y : KD} {env : Env} (e : stl x env = none) : ap2 o x y env = .bad := by unfold ap2; rw [e]
theorem ap2_n2 {o : Op2} {x y : KD} {env : Env} (e : stl y env = none) : ap2 o x y env = .bad := by unfold ap2; rw [e]; cases stl x env <;> rfl
theorem ap2_at {o : Op2} {x y : KD} {env : Env} {a b : D} (e1 : stl x env = some a) (e2 : stl y env = some b) : ap2 o x y env = kFD (op2D o a b) env := by unfold ap2; rw [e1, e2]
theorem t_chain {o o' : Op2} {r r' : R2} {a b c : IE} (hr : Op2S L r o) (hr' : Op2S L r' o') : ∀ σ H Q, TEv C sub L W (.chain o o' a b c) σ H Q → tChain r r' (TEv C sub L W a) (TEv C sub L W b) (TEv C sub L W c) σ H Q := fun σ H Q ⟨fl, A, env, os, r0, h⟩ => by
  rw [evE] at h
  refine TEv.go shf_V r0 h fun x env1 v H1 os1 p1 r1 st1 w1 => ?_
  refine TEv.go shf_V r1 w1 fun y env2 u H2 os2 p2 r2 st2 w2 => ?_
  cases e1 : stl x env2 with
  | none => rw [ap2_n1 e1] at w2; exact w2.elim
  | some da => cases e2 : stl y env2 with
    | none => rw [ap2_n2 e2] at w2; exact w2.elim
    | some db =>
      rw [ap2_at e1 e2] at w2
      cases e3 : op2D o da db with
      | none => rw [e3] at w2; exact w2.elim
      | some z =>
        rw [e3] at w2
        refine hr _ _ _ _ _ _ z _ (p1.settle st2 r2 e1) (p2.settle (Stp.refl _ _ _) r2 e2) e3 fun v3 H3 q3 => ?_
        have p3 := fin_op r2 q3
        have w3 := w2
        unfold kFD R.bnd at w3
        simp only at w3
        obtain ⟨f3, d3⟩ := z
        cases f3 with
        | true => exact w3.elim
        | false =>
          simp only [Bool.false_eq_true, if_false] at w3 p3
          cases d3 with
          | bl k =>
            obtain rfl := pv_bl p3
            cases k with
            | true =>
              refine ⟨true, rfl, ?_⟩
              rw [if_pos rfl]
              have st3 := p3.stp
              have r3 := p3.env
              have w4 := Wp.shift shf_V st3 w3
              refine TEv.go shf_V r3 w4 fun y' env4 u4 H4 os4 p4 r4 st4 w5 => ?_
              cases e4 : stl y env4 with
              | none => rw [ap2_n1 e4] at w5; exact w5.elim
              | some db4 => cases e5 : stl y' env4 with
                | none => rw [ap2_n2 e5] at w5; exact w5.elim
                | some dc =>
                  rw [ap2_at e4 e5] at w5
                  obtain ⟨z5, ez5, k5⟩ := w5.op r4
                  exact hr' _ _ _ _ _ _ z5 Q (p2.settle (st3.trans st4) r4 e4) (p4.settle (Stp.refl _ _ _) r4 e5) ez5 k5
            | false =>
              refine ⟨false, rfl, ?_⟩
              rw [if_neg (by decide)]
              have w4 := Wp.shift shf_V p3.stp w3
              exact w4 _ _ _ (pv_same p3.env rep_bl)
          | _ => exact w3.elim
/-! ### rows, displays -/
theorem t_anil : ∀ σ H Q, TAv C sub L W [] σ H Q → tNil σ H Q := fun σ H Q ⟨fl, A, env, os, r, h⟩ => by
  rw [evEs] at h
  exact h [] H os ⟨Sub.refl _, Pr.refl _, r, by simp only [Reps]⟩
theorem t_acons {a : IE} {as : List IE} : ∀ σ H Q, TAv C sub L W (a :: as) σ H Q → tCons (TEv C sub L W a) (TAv C sub L W as) σ H Q := fun σ H Q ⟨fl, A, env, os, r, h⟩ => by
  rw [evEs] at h
  refine ⟨fl, A, env, os, r, h.bnd fun x env1 v H1 os1 p w => ?_⟩
  cases e : emb x with
  | none => rw [e] at w; exact w.elim
  | some d =>
    rw [e] at w
    have p' := p.emb r.dm e
    have w' := (show Wp L fl W (PVs L fl) A H σ os ((evEs C sub as env1).bnd fun ds e3 => R.ok (d :: ds) e3) Q from w).shift shf_Vs p'.stp
    refine ⟨fl, _, env1, os1, p'.env, w'.bnd fun ds env2 vs H2 os2 p2 w2 => ?_⟩
    exact w2 (v :: vs) H2 os2 ⟨p2.1, p2.2.1, p2.2.2.1, by simp only [Reps]; exact ⟨p2.stp.rep (B := fun _ => False) p'.2.2.2, p2.2.2.2⟩⟩
theorem evEs_len {ds : List D} {as : List IE} {env env' : Env} (h : evEs C sub as env = .ok ds env') : ds.length = as.length := by
  induction as generalizing ds env env' with
  | nil => rw [evEs] at h; cases h; rfl
  | cons a r ih =>
    rw [evEs] at h
    cases e : evE C sub a env with
    | ok x e1 =>
      rw [e] at h
      simp only [R.bnd] at h
      cases e2 : emb x with
      | none => rw [e2] at h; cases h
      | some d =>
        rw [e2] at h
        simp only [optE] at h
        cases e3 : evEs C sub r e1 with
        | ok ds' e4 =>
          rw [e3] at h
          simp only [R.ok.injEq] at h
          obtain ⟨rfl, rfl⟩ := h
          rw [List.length_cons, List.length_cons, ih e3]
        | ex c e4 => rw [e3] at h; cases h
        | bad => rw [e3] at h; cases h
    | ex c e1 => rw [e] at h; cases h
    | bad => rw [e] at h; cases h
theorem t_tup {as : List IE} (hl : as.length ≤ lim) : ∀ σ H Q, TEv C sub L W (.tup as) σ H Q → tTup (TAv C sub L W as) σ H Q := fun σ H Q ⟨fl, A, env, os, r, h⟩ => by
  rw [evE] at h
  have hl' : ∀ ds env', evEs C sub as env = .ok ds env' → ds.length ≤ sizeLine := fun ds env' e => by rw [evEs_len e]; exact lim_line hl
  cases e : evEs C sub as env with
  | bad => rw [e] at h; exact h.elim
  | ex c e1 => rw [e] at h; exact ⟨fl, A, env, os, r, by rw [e]; exact h⟩
  | ok ds e1 =>
    rw [e] at h
    refine ⟨fl, A, env, os, r, ?_⟩
    rw [e]
    intro vs H1 os1 p
    refine ⟨by rw [← p.2.2.2.len]; exact hl' ds e1 e, fun q hq => ?_⟩
    have w := (show Wp L fl W (PV L fl) A H σ os (R.ok (Knd.shr, D.tup ds) e1) Q from h).shift shf_V p.stp
    exact w _ _ _ (fin_op (x := (false, .tup ds)) p.2.2.1 (post_tup hq p.2.2.2))
theorem t_lst {as : List IE} (hl : as.length ≤ lim) : ∀ σ H Q, TEv C sub L W (.lst as) σ H Q → tLst (TAv C sub L W as) σ H Q := fun σ H Q ⟨fl, A, env, os, r, h⟩ => by
  rw [evE] at h
  have hl' : ∀ ds env', evEs C sub as env = .ok ds env' → ds.length ≤ sizeLine := fun ds env' e => by rw [evEs_len e]; exact lim_line hl
  cases e : evEs C sub as env with
  | bad => rw [e] at h; exact h.elim
  | ex c e1 => rw [e] at h; exact ⟨fl, A, env, os, r, by rw [e]; exact h⟩
  | ok ds e1 =>
    rw [e] at h
    refine ⟨fl, A, env, os, r, ?_⟩
    rw [e]
    intro vs H1 os1 p
    refine ⟨by rw [← p.2.2.2.len]; exact hl' ds e1 e, fun q hq => ?_⟩
    have w := (show Wp L fl W (PV L fl) A H σ os (R.ok (Knd.fr, D.lst ds) e1) Q from h).shift shf_V p.stp
    exact w _ _ _ (fin_op (x := (true, .lst ds)) p.2.2.1 (post_lst hq p.2.2.2))
theorem post_dct {B : AP} {H : Hp} {p : Addr} {ks us : List D} {kvs : List (Key × V)} (hp : H p = none) (hk : keysD ks kvs) (nd : (kvs.map (·.1)).Nodup) (h : Reps L B H us (kvs.map (·.2))) : OpPost L B H true (.dct ks us) (.ref p) (upd H p (.dK kvs)) := by
  refine ⟨Ex.new hp, ?_⟩
  rw [if_pos rfl]
  refine ⟨p, rfl, hp, kvs, upd_same, hk, nd, ?_⟩
  refine Reps.keep (O := fun _ => False) (Ex.new hp).pr (fun _ z => z.elim) (h.more fun a ha => ?_)
  rcases ha with ha | ha
  · rw [ha]; exact .inr hp
  · exact .inl ha
theorem t_dnil : ∀ σ H Q, TEv C sub L W .dnil σ H Q → tDNewK σ H Q := fun σ H Q ⟨fl, A, env, os, r, h⟩ => by
  rw [evE] at h
  intro p hp
  exact h _ _ _ (fin_op (x := (true, .dct [] [])) r (post_dct (kvs := []) hp (by simp only [keysD]) (by simp) (by simp only [List.map_nil, Reps])))
/-! ### one-place operations by calls -/
theorem t_call1 {r : List V → Hp → VK → Prop} {o : Op1} {a : IE} (hr : Call1S L r o) : ∀ σ H Q, TEv C sub L W (.op1 o a) σ H Q → tCB r (tCons (TEv C sub L W a) tNil) σ H Q := fun σ H Q ⟨fl, A, env, os, r0, h⟩ => by
  rw [evE] at h
  refine TEv.go shf_V r0 h fun x env1 v H1 os1 p1 r1 st1 w1 => ?_
  unfold ap1 at w1
  cases e1 : stl x env1 with
  | none => rw [e1] at w1; exact w1.elim
  | some da =>
    rw [e1] at w1
    obtain ⟨z, ez, k⟩ := w1.op r1
    exact hr _ _ _ _ z Q (p1.settle (Stp.refl _ _ _) r1 e1) ez k
def Call2S (L : Lk) (r : List V → Hp → VK → Prop) (o : Op2) : Prop := ∀ (B : AP) (H : Hp) (x y : V) (a b : D) (z : FD) (Q : VK), Root L B H a x → Root L B H b y → op2D o a b = some z → (∀ v H', OpPost L B H z.1 z.2 v H' → Q v H') → r [x, y] H Q
theorem t_call2 {r : List V → Hp → VK → Prop} {o : Op2} {a b : IE} (hr : Call2S L r o) : ∀ σ H Q, TEv C sub L W (.op2 o a b) σ H Q → tCB r (tCons (TEv C sub L W a) (tCons (TEv C sub L W b) tNil)) σ H Q := fun σ H Q h =>
  tOp_of (r := fun x y H Q => r [x, y] H Q) (fun B H x y a b z Q h1 h2 h3 h4 => hr B H x y a b z Q h1 h2 h3 h4) σ H Q h
end
end Sb

set_option Elab.async false
set_option linter.all false
set_option maxRecDepth 100000
/-! Tests; what is walked. -/
namespace Sb
open PySem L2
section
variable {L : Lk} {fl : List Bool} {A A1 : AP} {H H' : Hp} {σ σ' : L2.St} {env : Env} {os : OS} {W : WX} {C : Cal} {sub : Nat → Nat → Bool} {X : Cx}
/-! ### tests -/
theorem tru_of {B : AP} {d : D} {v : V} {k : Bool} (h : Root L B H d v) (e : truthD d = some k) : TruV L.K v H k := by
  cases d with
  | non => rw [root_non h]; simp only [truthD, Option.some.injEq] at e; exact e.symm
  | bl b => rw [root_bl h]; simp only [truthD, Option.some.injEq] at e; exact e.symm
  | int i => rw [root_int h]; simp only [truthD, Option.some.injEq] at e; exact e.symm
  | str x =>
    rw [root_str h]
    simp only [truthD] at e
    split at e
    · rename_i hl
      simp only [Option.some.injEq] at e
      refine ⟨lim_line hl, ?_⟩
      rw [← e, Bool.eq_iff_iff]
      simp
    · cases e
  | tup ds =>
    obtain ⟨p, vs, ev, hs, r⟩ := root_tup h
    rw [ev]
    simp only [truthD, Option.some.injEq] at e
    refine .inr (.inl ⟨vs, hs, ?_⟩)
    have := r.len
    rw [← e]; cases ds <;> cases vs <;> simp at this ⊢
  | lst ds =>
    obtain ⟨p, vs, ev, hs, r⟩ := root_lst h
    rw [ev]
    simp only [truthD, Option.some.injEq] at e
    refine .inl ⟨vs, .of hs, ?_⟩
    have := r.len
    rw [← e]; cases ds <;> cases vs <;> simp at this ⊢
  | dct ks us =>
    obtain ⟨p, kvs, ev, hs, hk, nd, r⟩ := root_dct h
    rw [ev]
    simp only [truthD, Option.some.injEq] at e
    refine .inr (.inr ⟨kvs, hs, ?_⟩)
    have := keysD_len hk
    rw [← e]; cases ks <;> cases kvs <;> simp at this ⊢
  | obj _ _ => cases e
  | scr _ => cases e
theorem shf_Bb : Shf (PB L fl) := shf_B
theorem pb_same {k : Bool} (r : EnvRep L fl A H σ env os) : PB L fl A H σ os k env k H os := ⟨Sub.refl _, Pr.refl _, r, rfl⟩
/-- a test behind a value: what lay aside for it is forgotten -/
theorem PV.pb {x : KD} {env1 : Env} {v : V} {H1 : Hp} {os1 : OS} {k : Bool} (p : PV L fl A H σ os x env1 v H1 os1) : PB L fl A H σ os k env1 k H1 os1 :=
  ⟨p.1, p.2.1, p.2.2.1.less p.stp.inc, rfl⟩
theorem ttv_val {a : IE} : ∀ σ H Q, TTv C sub L W (.val a) σ H Q → TEv C sub L W a σ H (fun x H' => ∃ k, TruV L.K x H' k ∧ Q k H') := fun σ H Q ⟨fl, A, env, os, r, h⟩ => by
  rw [evT] at h
  refine ⟨fl, A, env, os, r, h.bnd fun x env1 v H1 os1 p w => ?_⟩
  cases e : stl x env1 with
  | none => rw [e] at w; exact w.elim
  | some d =>
    rw [e] at w
    simp only at w
    cases e2 : truthD d with
    | none => rw [e2] at w; exact w.elim
    | some k =>
      rw [e2] at w
      exact ⟨k, tru_of (p.settle (Stp.refl _ _ _) p.env e) e2, w k H1 os1 p.pb⟩
def isCmp : Op2 → Bool
  | .eq | .ne | .lt | .le | .gt | .ge | .inn | .nin | .is_ | .isnt => true
  | _ => false
theorem cont_bl {neg : Bool} {a b : D} {z : FD} (e : contD neg a b = some z) : ∃ k, z = (false, .bl k) := by
  cases b <;> simp only [contD, reduceCtorEq] at e
  · split at e
    · cases e; exact ⟨_, rfl⟩
    · cases e
  · split at e
    · cases e; exact ⟨_, rfl⟩
    · cases e
  · cases a <;> simp only [reduceCtorEq] at e
    cases e; exact ⟨_, rfl⟩
theorem cmp_bl {o : Op2} (ho : isCmp o = true) {a b : D} {z : FD} (e : op2D o a b = some z) : ∃ k, z = (false, .bl k) := by
  cases o <;> simp only [isCmp, reduceCtorEq, Bool.false_eq_true] at ho
  · simp only [op2D] at e
    split at e
    · cases e; exact ⟨_, rfl⟩
    · split at e
      · cases e; exact ⟨_, rfl⟩
      · cases e
  · simp only [op2D] at e
    split at e
    · cases e; exact ⟨_, rfl⟩
    · split at e
      · cases e; exact ⟨_, rfl⟩
      · cases e
  · simp only [op2D] at e
    split at e
    · cases e; exact ⟨_, rfl⟩
    · split at e
      · cases e; exact ⟨_, rfl⟩
      · cases e
    · cases e
  · simp only [op2D] at e
    split at e
    · cases e; exact ⟨_, rfl⟩
    · cases e
  · simp only [op2D] at e
    split at e
    · cases e; exact ⟨_, rfl⟩
    · cases e
  · simp only [op2D] at e
    split at e
    · cases e; exact ⟨_, rfl⟩
    · split at e
      · cases e; exact ⟨_, rfl⟩
      · cases e
    · cases e
  · exact cont_bl e
  · exact cont_bl e
  · simp only [op2D] at e
    split at e
    · cases e; exact ⟨_, rfl⟩
    · split at e
      · cases e; exact ⟨_, rfl⟩
      · cases e
    · cases e
  · simp only [op2D] at e
    split at e
    · cases e; exact ⟨_, rfl⟩
    · split at e
      · cases e; exact ⟨_, rfl⟩
      · cases e
    · cases e
theorem R.bnd_ok {α β : Type} {r : R α} {f : α → Env → R β} {b : β} {e' : Env} (h : r.bnd f = .ok b e') : ∃ a e1, r = .ok a e1 ∧ f a e1 = .ok b e' := by
  cases r with
  | ok a e1 => exact ⟨a, e1, rfl, h⟩
  | ex c e1 => cases h
  | bad => cases h
theorem ap2_bl {o : Op2} (ho : isCmp o = true) {x y z : KD} {e e' : Env} (h : ap2 o x y e = .ok z e') : ∃ k, z = (.shr, .bl k) := by
  unfold ap2 at h
  split at h
  · rename_i a b _ _
    cases q : op2D o a b with
    | none => rw [q] at h; cases h
    | some w =>
      obtain ⟨k, rfl⟩ := cmp_bl ho q
      rw [q] at h
      simp only [kFD, Bool.false_eq_true, if_false, R.ok.injEq] at h
      exact ⟨k, h.1.symm⟩
  · cases h
/-- expressions whose value is always a bool -/
def blE : IE → Bool
  | .op2 o _ _ => isCmp o
  | .chain _ o' _ _ _ => isCmp o'
  | _ => false
theorem blE_bl {a : IE} (ha : blE a = true) {env env' : Env} {z : KD} (h : evE C sub a env = .ok z env') : ∃ k, z = (.shr, .bl k) := by
  cases a <;> simp only [blE, Bool.false_eq_true, reduceCtorEq] at ha
  · rw [evE] at h
    obtain ⟨x, e1, _, h⟩ := R.bnd_ok h
    obtain ⟨y, e2, _, h⟩ := R.bnd_ok h
    exact ap2_bl ha h
  · rw [evE] at h
    obtain ⟨x, e1, _, h⟩ := R.bnd_ok h
    obtain ⟨y, e2, _, h⟩ := R.bnd_ok h
    obtain ⟨w, e3, _, h⟩ := R.bnd_ok h
    split at h
    · obtain ⟨y', e4, _, h⟩ := R.bnd_ok h
      exact ap2_bl ha h
    · cases h; exact ⟨_, rfl⟩
    · cases h
theorem ttv_bl {a : IE} (ha : blE a = true) : ∀ σ H Q, TTv C sub L W (.val a) σ H Q → tTest (TEv C sub L W a) σ H Q := fun σ H Q ⟨fl, A, env, os, r, h⟩ => by
  rw [evT] at h
  refine ⟨fl, A, env, os, r, ?_⟩
  cases e : evE C sub a env with
  | bad => rw [e] at h; exact h.elim
  | ex c e1 => rw [e] at h; exact h
  | ok x e1 =>
    obtain ⟨k, rfl⟩ := blE_bl ha e
    rw [e] at h
    intro v H1 os1 p
    refine ⟨k, pv_bl p, ?_⟩
    have h' : Wp L fl W (PB L fl) A H σ os (R.ok k e1) Q := h
    exact h' k H1 os1 p.pb
theorem ttv_not {a : IT} : ∀ σ H Q, TTv C sub L W (.not_ a) σ H Q → tNot (TTv C sub L W a) σ H Q := fun σ H Q ⟨fl, A, env, os, r, h⟩ => by
  rw [evT] at h
  exact TTv.go shf_B r h fun k env1 H1 os1 r1 st1 w1 => w1 _ _ _ (pb_same r1)
theorem ttv_and {a b : IT} : ∀ σ H Q, TTv C sub L W (.and_ a b) σ H Q → tAnd (TTv C sub L W a) (TTv C sub L W b) σ H Q := fun σ H Q ⟨fl, A, env, os, r, h⟩ => by
  rw [evT] at h
  refine TTv.go shf_B r h fun k env1 H1 os1 r1 st1 w1 => ?_
  cases k with
  | true => rw [if_pos rfl] at w1 ⊢; exact ⟨_, _, _, _, r1, w1⟩
  | false => rw [if_neg (by decide)] at w1 ⊢; exact w1 _ _ _ (pb_same r1)
theorem ttv_or {a b : IT} : ∀ σ H Q, TTv C sub L W (.or_ a b) σ H Q → tOr (TTv C sub L W a) (TTv C sub L W b) σ H Q := fun σ H Q ⟨fl, A, env, os, r, h⟩ => by
  rw [evT] at h
  refine TTv.go shf_B r h fun k env1 H1 os1 r1 st1 w1 => ?_
  cases k with
  | true => rw [if_pos rfl] at w1 ⊢; exact w1 _ _ _ (pb_same r1)
  | false => rw [if_neg (by decide)] at w1 ⊢; exact ⟨_, _, _, _, r1, w1⟩
/-- a clause's tests -/
def TTs (C : Cal) (sub : Nat → Nat → Bool) (L : Lk) (W : WX) (e : List IT) : TT := fun σ H Q =>
  ∃ fl A env os, EnvRep L fl A H σ env os ∧ Wp L fl W (PB L fl) A H σ os (evTs C sub e env) Q
theorem tts_nil : ∀ σ H Q, TTs C sub L W [] σ H Q → tYes σ H Q := fun σ H Q ⟨fl, A, env, os, r, h⟩ => by
  rw [evTs] at h
  exact h _ _ _ (pb_same r)
theorem tts_one {a : IT} : ∀ σ H Q, TTs C sub L W [a] σ H Q → TTv C sub L W a σ H Q := fun σ H Q ⟨fl, A, env, os, r, h⟩ => by
  rw [evTs] at h
  exact ⟨fl, A, env, os, r, h⟩

/-! ### what is walked -/
/-- later, on the way of a def's body: what was new then may be owned now -/
structure Mv (A : AP) (H : Hp) (os : OS) (A1 : AP) (H1 : Hp) (os1 : OS) : Prop where
  pr : Pr (Own os) H H1
  own : ∀ a, Own os1 a → Own os a ∨ H a = none
  new : ∀ a, A1 a → A a ∨ H a = none
theorem Mv.trans {A A1 A2 : AP} {H H1 H2 : Hp} {os os1 os2 : OS} (a : Mv A H os A1 H1 os1) (b : Mv A1 H1 os1 A2 H2 os2) : Mv A H os A2 H2 os2 :=
  ⟨a.pr.trans b.pr a.own, fun x hx => (b.own x hx).elim (a.own x) fun z => .inr (a.pr.dom x z), fun x hx => (b.new x hx).elim (a.new x) fun z => .inr (a.pr.dom x z)⟩
theorem Stp.mv {A A1 : AP} {H H1 : Hp} {os os1 : OS} (s : Stp A H os A1 H1 os1) : Mv A H os A1 H1 os1 := ⟨s.pr, fun a h => .inl (s.sub.own a h), s.new⟩
theorem Mv.av {A1 A2 : AP} {H1 H2 : Hp} {os1 os2 : OS} (st : Mv A1 H1 os1 A2 H2 os2) : ∀ a, Av A2 os2 a → Av A1 os1 a ∨ H1 a = none := fun a ha => by
  rcases ha with ha | ha
  · exact (st.new a ha).elim (fun z => .inl (.inl z)) .inr
  · exact (st.own a ha).elim (fun z => .inl (.inr z)) .inr
theorem Mv.rep {A1 A2 : AP} {H1 H2 : Hp} {os1 os2 : OS} (st : Mv A1 H1 os1 A2 H2 os2) {d : D} {v : V} (h : Rep L (Av A1 os1) H1 d v) : Rep L (Av A2 os2) H2 d v :=
  (Rep.keep (O := Own os1) (B := fun a => Av A1 os1 a ∨ Av A2 os2 a) st.pr (fun a ha => .inl (.inr ha)) (h.more fun a ha => ha.elim .inl (st.av a))).less fun a ha => .inr ha
theorem Mv.reps {A1 A2 : AP} {H1 H2 : Hp} {os1 os2 : OS} (st : Mv A1 H1 os1 A2 H2 os2) {ds : List D} {vs : List V} (h : Reps L (Av A1 os1) H1 ds vs) : Reps L (Av A2 os2) H2 ds vs :=
  (Reps.keep (O := Own os1) (B := fun a => Av A1 os1 a ∨ Av A2 os2 a) st.pr (fun a ha => .inl (.inr ha)) (h.more fun a ha => ha.elim .inl (st.av a))).less fun a ha => .inr ha
theorem Mv.ownRep {A1 A2 : AP} {H1 H2 : Hp} {os1 os2 : OS} (st : Mv A1 H1 os1 A2 H2 os2) {d : D} {p : Addr} (hp : ¬ Own os1 p) (h : OwnRep L (Av A1 os1) H1 d p) : OwnRep L (Av A2 os2) H2 d p :=
  (OwnRep.keep (O := Own os1) (B := fun a => Av A1 os1 a ∨ Av A2 os2 a) st.pr (fun a ha => .inl (.inr ha)) hp (h.more fun a ha => ha.elim .inl (st.av a))).more fun a ha => .inl (.inr ha)
theorem Mv.lst {A1 A2 : AP} {H1 H2 : Hp} {os1 os2 : OS} {p : Addr} {vs : List V} (st : Mv A1 H1 os1 A2 H2 os2) (hp : ¬ Own os1 p) (h : H1 p = some (.lst vs)) : H2 p = some (.lst vs) :=
  st.pr.keep p _ h (fun ps => by intro z; cases z) hp
/-- J walks ds, from here on -/
def JW (L : Lk) (A1 : AP) (H1 : Hp) (os1 : OS) (J : It) (ds : List D) : Prop :=
  ∃ G Y, Walk J ds.length G Y ∧ ∀ A2 H2 os2, Mv A1 H1 os1 A2 H2 os2 → G H2 ∧ ∀ i x H', i < ds.length → Y i H2 x H' → ∃ d, ds[i]? = some d ∧ Ex H2 H' ∧ Rep L (Av A2 os2) H' d x
def PItr (L : Lk) (fl : List Bool) : Po (List D) It := fun A H σ os ds env' J H' os' => ∃ A', Stp A H os A' H' os' ∧ EnvRep L fl A' H' σ env' os' ∧ JW L A' H' os' J ds
theorem shf_I : Shf (PItr L fl) := by
  intro A H σ os A1 H1 os1 ds env' J H' os' st ⟨A', st2, r, j⟩
  exact ⟨A', st.trans st2, r, j⟩
def TIv (C : Cal) (sub : Nat → Nat → Bool) (L : Lk) (W : WX) (it : Itr) : TI := fun σ H R =>
  ∃ fl A env os, EnvRep L fl A H σ env os ∧ Wp L fl W (PItr L fl) A H σ os (evI C sub it env) R
theorem _root_.L2.PI.or {tg l : Expr} {w1 w2 : TI} (h1 : PI X tg l w1) (h2 : PI X tg l w2) : PI X tg l (fun σ H R => w1 σ H R ∨ w2 σ H R) :=
  ⟨fun pins s σ H R I q => q.elim (h1.run pins s σ H R I) (h2.run pins s σ H R I)⟩
theorem _root_.L2.PI.imp {tg l : Expr} {w1 w2 : TI} (h1 : PI X tg l w1) (k : ∀ σ H R, w2 σ H R → w1 σ H R) : PI X tg l w2 := ⟨fun pins s σ H R I q => h1.run pins s σ H R I (k σ H R q)⟩
theorem reps_at {B : AP} {ds : List D} {vs : List V} {i : Nat} {x : V} (r : Reps L B H ds vs) (e : vs[i]? = some x) : ∃ d, ds[i]? = some d ∧ Rep L B H d x := by
  have h : i < ds.length := by rw [r.len]; exact (List.getElem?_eq_some_iff.mp e).1
  obtain ⟨v, e2, q⟩ := r.get (List.getElem?_eq_getElem h)
  rw [e] at e2; cases e2
  exact ⟨_, List.getElem?_eq_getElem h, q⟩
theorem Stp.lst {A1 A2 : AP} {H1 H2 : Hp} {os1 os2 : OS} {p : Addr} {vs : List V} (st : Stp A1 H1 os1 A2 H2 os2) (hp : ¬ Own os1 p) (h : H1 p = some (.lst vs)) : H2 p = some (.lst vs) :=
  st.pr.keep p _ h (fun ps => by intro z; cases z) hp
theorem jw_lst {H1 : Hp} {os1 : OS} {ds : List D} {p : Addr} (h : Rep L (Av A1 os1) H1 (.lst ds) (.ref p)) : JW L A1 H1 os1 (Itl L.K p) ds := by
  simp only [Rep] at h
  obtain ⟨q, vs, e, hb, hs, r⟩ := h
  cases e
  refine ⟨_, _, r.len ▸ walk_list, fun A2 H2 os2 st => ⟨.of (st.lst (fun z => hb (.inr z)) hs), fun i x H' hi ⟨e1, e2⟩ => ?_⟩⟩
  subst e1
  obtain ⟨d, e3, q⟩ := reps_at r e2
  exact ⟨d, e3, Ex.refl _, st.rep q⟩
theorem jw_tup {H1 : Hp} {os1 : OS} {ds : List D} {p : Addr} (h : Rep L (Av A1 os1) H1 (.tup ds) (.ref p)) : JW L A1 H1 os1 (Itt L.K p) ds := by
  simp only [Rep] at h
  obtain ⟨q, vs, e, hs, r⟩ := h
  cases e
  refine ⟨_, _, r.len ▸ walk_tup, fun A2 H2 os2 st => ⟨st.pr.sqT hs, fun i x H' hi ⟨e1, e2⟩ => ?_⟩⟩
  subst e1
  obtain ⟨d, e3, q⟩ := reps_at r e2
  exact ⟨d, e3, Ex.refl _, st.rep q⟩
theorem TIv.seq {a : IE} : ∀ σ H Rr, TIv C sub L W (.seq a) σ H Rr → iList L.K (TEv C sub L W a) σ H Rr ∨ iTup L.K (TEv C sub L W a) σ H Rr := fun σ H Rr ⟨fl, A, env, os, r, h⟩ => by
  rw [evI] at h
  cases e : evE C sub a env with
  | bad => rw [e] at h; exact h.elim
  | ex c e1 => rw [e] at h; exact .inl ⟨fl, A, env, os, r, by rw [e]; exact h⟩
  | ok x e1 =>
    rw [e] at h
    simp only [Sb.R.bnd] at h
    cases e2 : emb x with
    | none => rw [e2] at h; exact h.elim
    | some d =>
      rw [e2] at h
      simp only [Option.bind_some] at h
      cases e3 : itemsOf d with
      | none => rw [e3] at h; exact h.elim
      | some ds =>
        rw [e3] at h
        have h' : Wp L fl W (PItr L fl) A H σ os (R.ok ds e1) Rr := h
        cases d <;> simp only [itemsOf, reduceCtorEq, Option.some.injEq] at e3
        · subst e3
          refine .inr ⟨fl, A, env, os, r, ?_⟩
          rw [e]
          intro v H1 os1 p
          have p' := p.emb r.dm e2
          have q := p'.2.2.2
          obtain ⟨a, vs, ev, hs, _⟩ := root_tup (B := Av A os1) q.root
          subst ev
          exact ⟨a, rfl, ⟨vs, hs⟩, h' _ H1 os1 ⟨A, p'.stp, p'.env, jw_tup q⟩⟩
        · subst e3
          refine .inl ⟨fl, A, env, os, r, ?_⟩
          rw [e]
          intro v H1 os1 p
          have p' := p.emb r.dm e2
          have q := p'.2.2.2
          obtain ⟨a, vs, ev, hs, _⟩ := root_lst (B := Av A os1) q.root
          subst ev
          exact ⟨a, rfl, ⟨vs, .of hs⟩, h' _ H1 os1 ⟨A, p'.stp, p'.env, jw_lst q⟩⟩
theorem jw_rng {H1 : Hp} {os1 : OS} (lo : Int) (n : Nat) : JW L A1 H1 os1 (L2.Itr lo n) ((List.range n).map fun (k : Nat) => .int (lo + k)) := by
  refine ⟨fun _ => True, YFn fun i => .int (lo + i), ?_, fun A2 H2 os2 st => ⟨trivial, ?_⟩⟩
  · rw [List.length_map, List.length_range]
    exact walk_range
  · intro i x H' hi ⟨e1, e2⟩
    subst e1; subst e2
    rw [List.length_map, List.length_range] at hi
    exact ⟨.int (lo + i), by simp [hi], Ex.refl _, rep_int⟩
theorem TIv.rng1 {a : IE} : ∀ σ H R, TIv C sub L W (.rng1 a) σ H R → iRng1 (tCons (TEv C sub L W a) tNil) σ H R := fun σ H R ⟨fl, A, env, os, r, h⟩ => by
  rw [evI] at h
  refine TEv.go shf_I r h fun x env1 v H1 os1 p1 r1 st1 w1 => ?_
  cases e : stl x env1 with
  | none => rw [e] at w1; exact w1.elim
  | some d =>
    rw [e] at w1
    cases d <;> try exact w1.elim
    rename_i n
    simp only at w1
    split at w1
    · rename_i hn
      simp only [Bool.and_eq_true, decide_eq_true_eq] at hn
      have ev := root_int (p1.settle (Stp.refl _ _ _) r1 e)
      subst ev
      refine ⟨n, rfl, hn.1, by have : (lim : Int) < 2 ^ 62 := by decide
                               omega, w1 _ _ _ ⟨_, Stp.refl _ _ _, r1, ?_⟩⟩
      have := jw_rng (L := L) (A1 := nA x.1 (.int n) A) (H1 := H1) (os1 := os1) 0 n.toNat
      simpa using this
    · exact w1.elim
theorem TIv.rng2 {a b : IE} : ∀ σ H R, TIv C sub L W (.rng2 a b) σ H R → iRng2 (tCons (TEv C sub L W a) (tCons (TEv C sub L W b) tNil)) σ H R := fun σ H R ⟨fl, A, env, os, r, h⟩ => by
  rw [evI] at h
  refine TEv.go shf_I r h fun x env1 v H1 os1 p1 r1 st1 w1 => ?_
  refine TEv.go shf_I r1 w1 fun y env2 u H2 os2 p2 r2 st2 w2 => ?_
  cases e : stl x env2 with
  | none => rw [e] at w2; exact w2.elim
  | some d => cases e2 : stl y env2 with
    | none => rw [e, e2] at w2; cases d <;> exact w2.elim
    | some d2 =>
      rw [e, e2] at w2
      cases d <;> try exact w2.elim
      cases d2 <;> try exact w2.elim
      rename_i m n
      simp only at w2
      split at w2
      · rename_i hn
        simp only [Bool.and_eq_true, decide_eq_true_eq] at hn
        have ev := root_int (p1.settle st2 r2 e)
        have eu := root_int (p2.settle (Stp.refl _ _ _) r2 e2)
        subst ev; subst eu
        have big : (lim : Int) < 2 ^ 62 := by decide
        refine ⟨m, n, rfl, ⟨by omega, by omega, by omega, by omega⟩, w2 _ _ _ ⟨_, Stp.refl _ _ _, r2, jw_rng m (n - m).toNat⟩⟩
      · exact w2.elim
theorem enum_at : ∀ {ds : List D} {n i : Nat}, (enumFrom n ds)[i]? = (ds[i]?).map fun d => .tup [.int (n + i : Nat), d]
  | [], n, i => by simp [enumFrom]
  | d :: ds, n, 0 => by simp [enumFrom]
  | d :: ds, n, i + 1 => by
    simp only [enumFrom, List.getElem?_cons_succ]
    rw [enum_at]
    have : n + 1 + i = n + (i + 1) := by omega
    rw [this]
theorem enum_len : ∀ {ds : List D} {n : Nat}, (enumFrom n ds).length = ds.length
  | [], n => by simp [enumFrom]
  | d :: ds, n => by simp [enumFrom, enum_len]
theorem rep_pair {B : AP} {H2 : Hp} {T : Addr} {a b : D} {x y : V} (hT : H2 T = none) (ha : Rep L B H2 a x) (hb : Rep L B H2 b y) : Rep L B (upd H2 T (.tup [x, y])) (.tup [a, b]) (.ref T) := by
  have r : Reps L B H2 [a, b] [x, y] := by simp only [Reps]; exact ⟨ha, hb, trivial⟩
  have := post_tup hT r
  obtain ⟨_, q⟩ := this
  rwa [if_neg (by decide)] at q
theorem jw_enum {H1 : Hp} {os1 : OS} {ds : List D} {p : Addr} (h : Rep L (Av A1 os1) H1 (.lst ds) (.ref p)) : JW L A1 H1 os1 (Ite L.K p) (enumFrom 0 ds) := by
  simp only [Rep] at h
  obtain ⟨q, vs, e, hb, hs, r⟩ := h
  cases e
  refine ⟨_, _, (enum_len.trans r.len) ▸ walk_enum, fun A2 H2 os2 st => ⟨.of (st.lst (fun z => hb (.inr z)) hs), fun i x H' hi ⟨T, x1, y1, e1, hT, e2, e3, e4⟩ => ?_⟩⟩
  cases e3
  subst e1; subst e2
  obtain ⟨d, e5, q⟩ := reps_at r e4
  exact ⟨_, by rw [enum_at, e5]; rfl, Ex.new hT, rep_pair hT (by simpa using rep_int) (st.rep q)⟩
theorem TIv.enum {a : IE} : ∀ σ H Rr, TIv C sub L W (.enum a) σ H Rr → iEnum L.K (tCons (TEv C sub L W a) tNil) σ H Rr := fun σ H Rr ⟨fl, A, env, os, r, h⟩ => by
  rw [evI] at h
  cases e : evE C sub a env with
  | bad => rw [e] at h; exact h.elim
  | ex c e1 => rw [e] at h; exact ⟨fl, A, env, os, r, by rw [e]; exact h⟩
  | ok x e1 =>
    rw [e] at h
    simp only [Sb.R.bnd] at h
    cases e2 : emb x with
    | none => rw [e2] at h; exact h.elim
    | some d =>
      rw [e2] at h
      cases d <;> try exact h.elim
      · refine ⟨fl, A, env, os, r, ?_⟩
        rw [e]
        intro v H1 os1 p
        have p' := p.emb r.dm e2
        have q := p'.2.2.2
        obtain ⟨a, vs, ev, hs, _⟩ := root_lst (B := Av A os1) q.root
        subst ev
        exact ⟨a, vs, rfl, .of hs, h _ H1 os1 ⟨A, p'.stp, p'.env, jw_enum q⟩⟩
theorem zipD_at : ∀ {as bs : List D} {i : Nat} {a b : D}, as[i]? = some a → bs[i]? = some b → (zipD as bs)[i]? = some (.tup [a, b])
  | [], _, _, _, _, h, _ => by simp at h
  | _ :: _, [], _, _, _, _, h => by simp at h
  | x :: as, y :: bs, 0, a, b, h1, h2 => by simp at h1 h2; subst h1; subst h2; simp [zipD]
  | x :: as, y :: bs, i + 1, a, b, h1, h2 => by
    simp only [zipD, List.getElem?_cons_succ] at *
    exact zipD_at h1 h2
theorem zipD_len : ∀ {as bs : List D}, (zipD as bs).length = min as.length bs.length
  | [], _ => by simp [zipD]
  | _ :: _, [] => by simp [zipD]
  | x :: as, y :: bs => by simp only [zipD, List.length_cons, zipD_len]; omega
theorem walk_zipT {K : PySem.W.Frag} {a b : Addr} {xs ys : List V} {n : Nat} (hn : n = min xs.length ys.length) : Walk (RZ.ItzT K a b) n (fun H => SqT K H a xs ∧ SqT K H b ys) (YPair (fun i => xs[i]?) (fun i => ys[i]?)) where
  goes i H hi g := by
    refine ⟨xs, ys, xs[i]'(by omega), ys[i]'(by omega), g.1, g.2, List.getElem?_eq_getElem _, List.getElem?_eq_getElem _⟩
  stops H g := ⟨xs, ys, g.1, g.2, by omega⟩
  yields i H x H' hi g y := by
    obtain ⟨T, x1, y1, e1, hT, e2, e3, e4⟩ := y
    exact ⟨T, x1, y1, e1, hT, e2, e3 xs g.1, e4 ys g.2⟩
theorem jw_zipL {H1 : Hp} {os1 : OS} {ds es : List D} {p q : Addr} (h1 : Rep L (Av A1 os1) H1 (.lst ds) (.ref p)) (h2 : Rep L (Av A1 os1) H1 (.lst es) (.ref q)) : JW L A1 H1 os1 (Itz L.K p q) (zipD ds es) := by
  simp only [Rep] at h1 h2
  obtain ⟨p', vs, e, hb, hs, r⟩ := h1
  cases e
  obtain ⟨q', us, e, hb', hs', r'⟩ := h2
  cases e
  refine ⟨_, _, walk_zip (by rw [zipD_len, r.len, r'.len]), fun A2 H2 os2 st => ⟨⟨.of (st.lst (fun z => hb (.inr z)) hs), .of (st.lst (fun z => hb' (.inr z)) hs')⟩, fun i x H' hi ⟨T, x1, y1, e1, hT, e2, e3, e4⟩ => ?_⟩⟩
  subst e1; subst e2
  obtain ⟨d, e5, q1⟩ := reps_at r e3
  obtain ⟨d', e6, q2⟩ := reps_at r' e4
  exact ⟨_, zipD_at e5 e6, Ex.new hT, rep_pair hT (st.rep q1) (st.rep q2)⟩
theorem jw_zipT {H1 : Hp} {os1 : OS} {ds es : List D} {p q : Addr} (h1 : Rep L (Av A1 os1) H1 (.tup ds) (.ref p)) (h2 : Rep L (Av A1 os1) H1 (.tup es) (.ref q)) : JW L A1 H1 os1 (RZ.ItzT L.K p q) (zipD ds es) := by
  simp only [Rep] at h1 h2
  obtain ⟨p', vs, e, hs, r⟩ := h1
  cases e
  obtain ⟨q', us, e, hs', r'⟩ := h2
  cases e
  refine ⟨_, _, walk_zipT (by rw [zipD_len, r.len, r'.len]), fun A2 H2 os2 st => ⟨⟨st.pr.sqT hs, st.pr.sqT hs'⟩, fun i x H' hi ⟨T, x1, y1, e1, hT, e2, e3, e4⟩ => ?_⟩⟩
  subst e1; subst e2
  obtain ⟨d, e5, q1⟩ := reps_at r e3
  obtain ⟨d', e6, q2⟩ := reps_at r' e4
  exact ⟨_, zipD_at e5 e6, Ex.new hT, rep_pair hT (st.rep q1) (st.rep q2)⟩
/-- an operand that is handed on, and what follows -/
theorem TEv.goE {a : IE} {β γ : Type} {P2 : Po β γ} {f : KD → Env → R β} {Q : γ → Hp → Prop} {Q1 : VK} (hs : Shf P2) (r : EnvRep L fl A H σ env os)
    (h : Wp L fl W P2 A H σ os ((evE C sub a env).bnd f) Q)
    (k : ∀ x d env1 v H1 os1, emb x = some d → EnvRep L fl A H1 σ env1 os1 → Stp A H os A H1 os1 → Rep L (Av A os1) H1 d v → Wp L fl W P2 A H1 σ os1 (f x env1) Q → Q1 v H1)
    (k0 : ∀ x env1 v H1 os1, emb x = none → EnvRep L fl A H1 σ env1 os1 → Wp L fl W P2 A H1 σ os1 (f x env1) Q → Q1 v H1) : TEv C sub L W a σ H Q1 :=
  ⟨fl, A, env, os, r, h.bnd fun x env1 v H1 os1 p w => by
    cases e : emb x with
    | some d =>
      have p' := p.emb r.dm e
      exact k x d env1 v H1 os1 e p'.env p'.stp p'.2.2.2 (w.shift hs p'.stp)
    | none =>
      have r1 : EnvRep L fl A H1 σ env1 os1 := p.env.less p.stp.inc
      exact k0 x env1 v H1 os1 e r1 (w.shift hs ⟨p.1, p.2.1, fun _ z => z, fun _ z => .inl z⟩)⟩
theorem TIv.zip {a b : IE} : ∀ σ H Rr, TIv C sub L W (.zip a b) σ H Rr → RZ.iZipA L.K (tCons (TEv C sub L W a) (tCons (TEv C sub L W b) tNil)) σ H Rr := fun σ H Rr ⟨fl, A, env, os, r, h⟩ => by
  rw [evI] at h
  refine TEv.goE shf_I r h (fun x d env1 v H1 os1 e r1 st1 q1 w1 => ?_) fun x env1 v H1 os1 e r1 w1 => ?_
  · refine TEv.goE shf_I r1 w1 (fun y d2 env2 u H2 os2 e2 r2 st2 q2 w2 => ?_) fun y env2 u H2 os2 e2 r2 w2 => ?_
    · have q1' := st2.rep (B := fun _ => False) q1
      simp only [e, e2] at w2
      cases d <;> try exact w2.elim
      · rename_i ds
        cases d2 <;> try exact w2.elim
        · rename_i es
          obtain ⟨p, vs, ev, hs, _⟩ := root_tup q1'.root
          obtain ⟨q, us, eu, hs', _⟩ := root_tup q2.root
          subst ev; subst eu
          exact ⟨p, q, vs, us, rfl, .inr ⟨hs, hs', w2 _ H2 os2 ⟨A, Stp.refl _ _ _, r2, jw_zipT q1' q2⟩⟩⟩
      · rename_i ds
        cases d2 <;> try exact w2.elim
        · rename_i es
          obtain ⟨p, vs, ev, hs, _⟩ := root_lst q1'.root
          obtain ⟨q, us, eu, hs', _⟩ := root_lst q2.root
          subst ev; subst eu
          exact ⟨p, q, vs, us, rfl, .inl ⟨.of hs, .of hs', w2 _ H2 os2 ⟨A, Stp.refl _ _ _, r2, jw_zipL q1' q2⟩⟩⟩
    · simp only [e, e2] at w2
      cases d <;> exact w2.elim
  · refine TEv.go shf_I r1 w1 fun y env2 u H2 os2 p2 r2 st2 w2 => ?_
    simp only [e] at w2
    exact w2.elim
end
end Sb

set_option Elab.async false
set_option linter.all false
set_option maxRecDepth 100000
/-! Blocks: the names of a comprehension; targets; list comprehensions. -/
namespace Sb
open PySem L2
abbrev WF : WX := fun _ _ _ _ => False
theorem OwnRep.noext {L : Lk} {B : AP} {H : Hp} {d : D} {p : Addr} (h : OwnRep L B H d p) (φ : Heap → Prop) : H p ≠ some (.ext φ) := by
  cases d with
  | lst ds => obtain ⟨vs, e, r⟩ := h; rw [e]; intro z; cases z
  | dct ks us => obtain ⟨vs, e, r⟩ := h; rw [e]; intro z; cases z
  | obj c fs => obtain ⟨_, vs, e, r⟩ := h; rw [e]; intro z; cases z
  | non => exact h.elim
  | bl _ => exact h.elim
  | int _ => exact h.elim
  | str _ => exact h.elim
  | tup _ => exact h.elim
  | scr _ => exact h.elim
/-- what stands at d may be replaced -/
def Chg (H : Hp) (d : Addr) : Prop := (∀ ps, H d ≠ some (.tbl ps)) ∧ (∀ φ, H d ≠ some (.ext φ)) ∧ (∀ xs, H d ≠ some (.tup xs)) ∧ ∀ o u, H d ≠ some (.frz o u)
theorem chg_lst {H : Hp} {d : Addr} {vs : List V} (h : H d = some (.lst vs)) : Chg H d := by
  refine ⟨fun _ z => ?_, fun _ z => ?_, fun _ z => ?_, fun _ _ z => ?_⟩ <;> (rw [h] at z; cases z)
theorem chg_dK {H : Hp} {d : Addr} {vs : List (Key × V)} (h : H d = some (.dK vs)) : Chg H d := by
  refine ⟨fun _ z => ?_, fun _ z => ?_, fun _ z => ?_, fun _ _ z => ?_⟩ <;> (rw [h] at z; cases z)
theorem OwnRep.chg {L : Lk} {B : AP} {H : Hp} {d : D} {p : Addr} (h : OwnRep L B H d p) : Chg H p := by
  obtain ⟨o, e, h1, h2, h3⟩ := h.dom
  refine ⟨fun _ z => ?_, fun φ z => h.noext φ z, fun _ z => ?_, fun _ _ z => ?_⟩
  · rw [e] at z; cases z; exact h1 _ rfl
  · rw [e] at z; cases z; exact h2 _ rfl
  · rw [e] at z; cases z; exact h3 _ _ rfl
theorem tabs_upd {T : List (Addr × Str)} {H : Hp} {d : Addr} {o : HO} (t : LamX.Tabs T H) (h : Chg H d) : LamX.Tabs T (upd H d o) := fun p hp => by
  obtain ⟨ps, h1, h2, h3⟩ := t p hp
  refine ⟨ps, by rw [upd_ne (fun z => h.1 ps (by rw [← z]; exact h1))]; exact h1, h2, fun pos cv hc => ?_⟩
  obtain ⟨c, e1, e2⟩ := h3 pos cv hc
  exact ⟨c, e1, by rw [upd_ne (fun z => h.2.1 _ (by rw [← z]; exact e2))]; exact e2⟩
theorem pr_upd {O : AP} {H : Hp} {d : Addr} {o : HO} (hO : O d) (h : Chg H d) : Pr O H (upd H d o) := by
  refine ⟨fun a u e _ ha => ?_, fun a xs e => ?_, fun a ob u e => ?_, fun a e => ?_⟩
  · rw [upd_ne (fun z => ha (by rw [z]; exact hO))]; exact e
  · rw [upd_ne (fun z => h.2.2.1 _ (by rw [← z]; exact e))]; exact e
  · rw [upd_ne (fun z => h.2.2.2 _ _ (by rw [← z]; exact e))]; exact e
  · by_cases z : a = d
    · rw [z, upd_same] at e; cases e
    · rwa [upd_ne z] at e
section
variable {L : Lk} {fl : List Bool} {A A1 : AP} {H H' : Hp} {σ σ' : L2.St} {env env' : Env} {os os' : OS} {W : WX} {C : Cal} {sub : Nat → Nat → Bool} {X : Cx}
/-- what lies aside is changed -/
theorem EnvRep.over {d : Addr} {o : HO} (r : EnvRep L fl A H σ env os) (hd : A d) (h : Chg H d) : EnvRep L fl A (upd H d o) σ env os := by
  have k : Pr (fun a => a = d) H (upd H d o) := pr_upd rfl h
  refine ⟨r.le, r.lo, r.fl, fun i s hs => ?_, r.uq, r.dj, fun a ha z => ?_, tabs_upd r.tab h⟩
  · obtain ⟨v, ow, h1, h2, h3⟩ := r.rep i s hs
    refine ⟨v, ow, h1, h2, h3.keep k (fun a ha => by rw [ha]; exact .inl hd) fun a ha z => ?_⟩
    rw [z] at ha
    exact r.dj d hd ⟨i, ow, h2, ha⟩
  · exact r.dm a ha (k.dom a z)
theorem Stp.over {A2 : AP} {H1 H2 : Hp} {os1 os2 : OS} {d : Addr} {o : HO} (st : Stp A1 H1 os1 A2 H2 os2) (hd : H1 d = none) (h : Chg H2 d) : Stp A1 H1 os1 A2 (upd H2 d o) os2 := by
  refine ⟨st.sub, ⟨fun a u e n ha => ?_, fun a xs e => ?_, fun a ob u e => ?_, fun a e => ?_⟩, st.inc, st.new⟩
  · rw [upd_ne (ne_of_none e hd)]; exact st.pr.keep a u e n ha
  · rw [upd_ne (ne_of_none e hd)]; exact st.pr.tups a xs e
  · rw [upd_ne (ne_of_none e hd)]; exact st.pr.frzs a ob u e
  · by_cases z : a = d
    · rw [z, upd_same] at e; cases e
    · rw [upd_ne z] at e; exact st.pr.dom a e
/-! ### a block's own names -/
theorem wipe1_at {i : Nat} (h : wipe1 i env = some env') : ∃ s, env[i]? = some s ∧ s.isOwn = false ∧ env'[i]? = some .no ∧ (∀ j, j ≠ i → env'[j]? = env[j]?) ∧ env'.length = env.length := by
  unfold wipe1 at h
  cases e : env[i]? with
  | none => rw [e] at h; cases h
  | some s =>
    rw [e] at h
    have hi : i < env.length := (List.getElem?_eq_some_iff.mp e).1
    cases s with
    | no => cases h; exact ⟨_, rfl, rfl, e, fun _ _ => rfl, rfl⟩
    | shr p d =>
      cases h
      exact ⟨_, rfl, rfl, List.getElem?_set_self hi, fun j hj => List.getElem?_set_ne (by omega), List.length_set⟩
    | own p d => cases h
theorem EnvRep.wipe1 {i : Nat} (r : EnvRep L fl A H σ env os) (h : Sb.wipe1 i env = some env') : EnvRep L (env'.map Slot.pin) A H (σ.set i none) env' os := by
  obtain ⟨s, e, ho, h1, h2, h3⟩ := wipe1_at h
  have hi : i < env.length := (List.getElem?_eq_some_iff.mp e).1
  refine ⟨by rw [h3, r.le, List.length_set], by rw [r.lo, h3], rfl, fun j s' hs => ?_, r.uq, r.dj, r.dm, r.tab⟩
  by_cases z : j = i
  · subst z
    rw [h1] at hs; cases hs
    obtain ⟨v, o, q1, q2, q3⟩ := r.rep j s e
    refine ⟨none, o, List.getElem?_set_self (by rw [← r.le]; exact hi), q2, ?_⟩
    cases s with
    | no => exact q3
    | shr p d => exact q3.1
    | own p d => cases ho
  · rw [h2 j z] at hs
    obtain ⟨v, o, q1, q2, q3⟩ := r.rep j s' hs
    exact ⟨v, o, by rw [List.getElem?_set_ne (by omega)]; exact q1, q2, q3⟩
theorem wipeE_at : ∀ {vs : List Nat} {env env' : Env}, wipeE vs env = some env' → (∀ i ∈ vs, ∃ s, env[i]? = some s ∧ s.isOwn = false ∧ env'[i]? = some .no) ∧ (∀ i, i ∉ vs → env'[i]? = env[i]?) ∧ env'.length = env.length
  | [], env, env', h => by
    cases h
    exact ⟨fun i hi => absurd hi List.not_mem_nil, fun _ _ => rfl, rfl⟩
  | v :: vs, env, env', h => by
    simp only [wipeE, Option.bind_eq_some_iff] at h
    obtain ⟨e1, h1, h2⟩ := h
    obtain ⟨a1, a2, a3⟩ := wipeE_at h1
    obtain ⟨s, b1, b2, b3, b4, b5⟩ := wipe1_at h2
    refine ⟨fun i hi => ?_, fun i hi => ?_, by rw [b5, a3]⟩
    · by_cases z : i = v
      · subst z
        by_cases q : i ∈ vs
        · obtain ⟨s', c1, c2, _⟩ := a1 i q
          exact ⟨s', c1, c2, b3⟩
        · exact ⟨s, by rw [← a2 i q]; exact b1, b2, b3⟩
      · have : i ∈ vs := by
          rcases List.mem_cons.mp hi with q | q
          · exact absurd q z
          · exact q
        obtain ⟨s', c1, c2, c3⟩ := a1 i this
        exact ⟨s', c1, c2, by rw [b4 i z]; exact c3⟩
    · have z : i ≠ v := fun q => hi (by rw [q]; exact List.mem_cons_self)
      rw [b4 i z, a2 i fun q => hi (List.mem_cons_of_mem _ q)]
theorem EnvRep.wipe : ∀ {vs : List Nat} {env env' : Env} {fl : List Bool} {σ : L2.St}, EnvRep L fl A H σ env os → wipeE vs env = some env' → EnvRep L (env'.map Slot.pin) A H (L2.wipe σ vs) env' os
  | [], env, env', fl, σ, r, h => by cases h; rw [r.fl]; exact r
  | v :: vs, env, env', fl, σ, r, h => by
    simp only [wipeE, Option.bind_eq_some_iff] at h
    obtain ⟨e1, h1, h2⟩ := h
    exact (EnvRep.wipe r h1).wipe1 h2
theorem backE_len : ∀ (vs : List Nat) (e0 e : Env), (backE vs e0 e).length = e.length
  | [], _, _ => rfl
  | v :: vs, e0, e => by
    simp only [backE]
    split
    · rw [List.length_set, backE_len vs]
    · exact backE_len vs e0 e
theorem backE_in : ∀ {vs : List Nat} {e0 e : Env} {i : Nat} {s : Slot}, i ∈ vs → e0[i]? = some s → i < e.length → (backE vs e0 e)[i]? = some s
  | v :: vs, e0, e, i, s, hi, h0, hl => by
    simp only [backE]
    by_cases z : i = v
    · subst z
      rw [h0]
      exact List.getElem?_set_self (by rw [backE_len]; exact hl)
    · have : i ∈ vs := by
        rcases List.mem_cons.mp hi with q | q
        · exact absurd q z
        · exact q
      split
      · rw [List.getElem?_set_ne (by omega)]; exact backE_in this h0 hl
      · exact backE_in this h0 hl
theorem backE_out : ∀ {vs : List Nat} {e0 e : Env} {i : Nat}, i ∉ vs → (backE vs e0 e)[i]? = e[i]?
  | [], _, _, _, _ => rfl
  | v :: vs, e0, e, i, hi => by
    simp only [backE]
    have z : i ≠ v := fun q => hi (by rw [q]; exact List.mem_cons_self)
    have : i ∉ vs := fun q => hi (List.mem_cons_of_mem _ q)
    split
    · rw [List.getElem?_set_ne (by omega)]; exact backE_out this
    · exact backE_out this
/-- out of a block -/
theorem EnvRep.back {vs : List Nat} {env0 env4 : Env} {A' : AP} {σ4 : L2.St} (r : EnvRep L fl A H σ env os) (hw : wipeE vs env = some env0) (st : Stp A H os A' H' os')
    (r4 : EnvRep L (env0.map Slot.pin) A' H' σ4 env4 os') (h4 : ∀ i, i ∉ vs → σ4[i]? = σ[i]?) : EnvRep L fl A' H' σ (backE vs env env4) os' := by
  obtain ⟨w1, w2, w3⟩ := wipeE_at hw
  have hlen : env4.length = env.length := by
    have := congrArg List.length r4.fl
    rwa [List.length_map, List.length_map, w3] at this
  refine ⟨by rw [backE_len, hlen]; exact r.le, by rw [r4.lo, backE_len], ?_, fun i s hs => ?_, r4.uq, r4.dj, r4.dm, r4.tab⟩
  · rw [← r.fl]
    refine List.ext_getElem? fun i => ?_
    rw [List.getElem?_map, List.getElem?_map]
    by_cases hi : i ∈ vs
    · obtain ⟨s, a1, a2, a3⟩ := w1 i hi
      rw [backE_in hi a1 (by rw [hlen]; exact (List.getElem?_eq_some_iff.mp a1).1), a1]
    · rw [backE_out hi]
      have := congrArg (fun l => l[i]?) r4.fl
      simp only [List.getElem?_map, w2 i hi] at this
      exact this
  · by_cases hi : i ∈ vs
    · obtain ⟨s', a1, a2, a3⟩ := w1 i hi
      have hlt := (List.getElem?_eq_some_iff.mp a1).1
      rw [backE_in hi a1 (by rw [hlen]; exact hlt)] at hs
      cases hs
      obtain ⟨v, o, b1, b2, b3⟩ := r.rep i s a1
      have hlt' : i < os'.length := by rw [r4.lo, hlen]; exact hlt
      obtain ⟨o1, c1, c2⟩ := st.sub i _ (List.getElem?_eq_getElem hlt')
      rw [b2] at c1; cases c1
      have nil : o = [] → os'[i] = [] := fun z => by
        subst z
        exact List.eq_nil_iff_forall_not_mem.mpr fun a ha => by cases c2 a ha
      cases s with
      | no => exact ⟨v, os'[i], b1, List.getElem?_eq_getElem hlt', nil b3⟩
      | shr p d =>
        obtain ⟨e1, x, e2, q⟩ := b3
        exact ⟨v, os'[i], b1, List.getElem?_eq_getElem hlt', nil e1, x, e2, st.rep (B := fun _ => False) q⟩
      | own p d => cases a2
    · rw [backE_out hi] at hs
      obtain ⟨v, o, b1, b2, b3⟩ := r4.rep i s hs
      exact ⟨v, o, by rw [← h4 i hi]; exact b1, b2, b3⟩
/-! ### targets -/
def gNms : List Nat → TGs
  | [] => gNil
  | i :: r => gCons (gName i) (gNms r)
def gTg (K : PySem.W.Frag) : Tg → TG
  | .nm i => gName i
  | .nms is => gTup K is.length (gNms is)
def tgIx : Tg → List Nat
  | .nm i => [i]
  | .nms is => is
/-- behind stores -/
structure Sto (L : Lk) (fl : List Bool) (A : AP) (H : Hp) (ix : List Nat) (σ : L2.St) (os : OS) (env' : Env) (σ' : L2.St) (os' : OS) : Prop where
  rep : EnvRep L fl A H σ' env' os'
  sub : Sub os' os
  len : σ'.length = σ.length
  out : ∀ i, i ∉ ix → σ'[i]? = σ[i]?
  pin : ∀ i, fl[i]? = some true → i ∉ ix
theorem set_g {i : Nat} {d : D} {x : V} (r : EnvRep L fl A H σ env os) (hx : Rep L (Av A os) H d x) (h : setS i (.shr false d) env = some env') : Sto L fl A H [i] σ os env' (σ.set i (some x)) (os.set i []) := by
  unfold setS at h
  cases e : env[i]? with
  | none => rw [e] at h; cases h
  | some t =>
    rw [e] at h
    simp only at h
    split at h
    · cases h
    · rename_i hp
      cases h
      have hi : i < env.length := (List.getElem?_eq_some_iff.mp e).1
      have hpin : t.pin = false := by simpa using hp
      obtain ⟨v, o, q1, q2, q3⟩ := r.rep i t e
      refine ⟨r.put (A := A) e (by rw [hpin]; rfl) (fun _ z => z) List.length_set (fun j hj => List.getElem?_set_ne (by omega)) (List.getElem?_set_self (by rw [← r.le]; exact hi))
        (fun a h => by cases h) (fun a h => by cases h) (fun a h => by cases h) ⟨rfl, x, rfl, hx.less fun a ha => ?_⟩, sub_set q2 (fun a h => by cases h), List.length_set, fun j hj => List.getElem?_set_ne (fun z => hj (by rw [z]; exact List.mem_cons_self)), fun j hj hm => ?_⟩
      · rcases ha with ha | ha
        · exact .inl ha
        · rcases own_set ha with ⟨j, o, _, h4, h5⟩ | h4
          · exact .inr ⟨j, o, h4, h5⟩
          · cases h4
      · have : j = i := by simpa using hm
        subst this
        rw [← r.fl, List.getElem?_map, e] at hj
        simp [hpin] at hj
theorem Sto.trans {ix ix2 : List Nat} {σ2 : L2.St} {os2 : OS} {env2 : Env} (a : Sto L fl A H ix σ os env' σ' os') (b : Sto L fl A H ix2 σ' os' env2 σ2 os2) : Sto L fl A H (ix ++ ix2) σ os env2 σ2 os2 :=
  ⟨b.rep, b.sub.trans a.sub, b.len.trans a.len, fun i hi => (b.out i fun z => hi (List.mem_append_right _ z)).trans (a.out i fun z => hi (List.mem_append_left _ z)), fun i hi z => by
    rcases List.mem_append.mp z with z | z
    · exact a.pin i hi z
    · exact b.pin i hi z⟩
theorem rep_sub {B B' : AP} {d : D} {v : V} (h : Rep L B H d v) (hB : ∀ a, B' a → B a) : Rep L B' H d v := h.less hB
theorem Sto.av {ix : List Nat} (s : Sto L fl A H ix σ os env' σ' os') : ∀ a, Av A os' a → Av A os a := fun a ha => by
  rcases ha with ha | ha
  · exact .inl ha
  · exact .inr (s.sub.own a ha)
theorem setN_g : ∀ {is : List Nat} {ds : List D} {xs : List V} {env env' : Env} {σ : L2.St} {os : OS} {Q : L2.St → Hp → Prop}, EnvRep L fl A H σ env os → Reps L (Av A os) H ds xs → setN is ds env = some env' →
    (∀ σ' os', Sto L fl A H is σ os env' σ' os' → Q σ' H) → gNms is xs σ H Q
  | [], [], [], env, env', σ, os, Q, r, _, h, k => by
    cases h
    exact ⟨rfl, k σ os ⟨r, Sub.refl _, rfl, fun _ _ => rfl, fun _ _ z => by cases z⟩⟩
  | i :: is, d :: ds, x :: xs, env, env', σ, os, Q, r, hx, h, k => by
    simp only [setN, Option.bind_eq_some_iff] at h
    obtain ⟨e1, h1, h2⟩ := h
    simp only [Reps] at hx
    have s1 := set_g r hx.1 h1
    exact ⟨x, xs, rfl, setN_g s1.rep (hx.2.less s1.av) h2 fun σ' os' s2 => k σ' os' (s1.trans s2)⟩
  | [], [], _ :: _, _, _, _, _, _, _, hx, _, _ => by simp only [Reps] at hx
  | [], _ :: _, _, _, _, _, _, _, _, _, h, _ => by cases h
  | _ :: _, [], _, _, _, _, _, _, _, _, h, _ => by cases h
  | _ :: _, _ :: _, [], _, _, _, _, _, _, hx, _, _ => by simp only [Reps] at hx
theorem setN_len : ∀ {is : List Nat} {ds : List D} {env env' : Env}, setN is ds env = some env' → ds.length = is.length
  | [], [], _, _, _ => rfl
  | _ :: is, _ :: ds, env, env', h => by
    simp only [setN, Option.bind_eq_some_iff] at h
    obtain ⟨e1, _, h2⟩ := h
    simp [setN_len h2]
  | [], _ :: _, _, _, h => by cases h
  | _ :: _, [], _, _, h => by cases h
theorem asg_g {t : Tg} {d : D} {x : V} {Q : L2.St → Hp → Prop} (r : EnvRep L fl A H σ env os) (hx : Rep L (Av A os) H d x) (h : asgT t d env = some env')
    (k : ∀ σ' os', Sto L fl A H (tgIx t) σ os env' σ' os' → Q σ' H) : gTg L.K t x σ H Q := by
  cases t with
  | nm i => exact k _ _ (set_g r hx h)
  | nms is =>
    cases d <;> simp only [asgT, reduceCtorEq] at h
    rename_i ds
    obtain ⟨p, vs, e, hs, q⟩ := root_tup hx.root
    exact ⟨p, vs, e, hs, by rw [← q.len, setN_len h], setN_g r q h k⟩
theorem wipe_get (vs : List Nat) (σ : L2.St) (i : Nat) : (L2.wipe σ vs)[i]? = if i ∈ vs ∧ i < σ.length then some none else σ[i]? := by
  induction vs with
  | nil => simp [L2.wipe]
  | cons v vs ih =>
    simp only [L2.wipe]
    rw [List.getElem?_set]
    by_cases h : v = i
    · subst h
      simp only [wipe_length, true_and, if_true, List.mem_cons, true_or]
      split
      · rfl
      · rename_i q
        rw [List.getElem?_eq_none (by omega)]
    · rw [if_neg h, ih]
      have : (i ∈ v :: vs) ↔ i ∈ vs := by
        rw [List.mem_cons]
        exact ⟨fun z => z.elim (fun z => absurd z.symm h) id, .inr⟩
      simp only [this]
theorem wipe_eq {vs : List Nat} (hl : σ'.length = σ.length) (h : ∀ i, i ∉ vs → σ'[i]? = σ[i]?) : L2.wipe σ' vs = L2.wipe σ vs := by
  refine List.ext_getElem? fun i => ?_
  rw [wipe_get, wipe_get, hl]
  split
  · rfl
  · rename_i q
    by_cases hi : i ∈ vs
    · have : ¬ i < σ.length := fun z => q ⟨hi, z⟩
      rw [List.getElem?_eq_none (by omega), List.getElem?_eq_none (by omega)]
    · exact h i hi
/-! ### loops of comprehensions, from the first turn -/
theorem R.calm_ok {α : Type} {r : R α} {a : α} {e : Env} (h : r.calm = .ok a e) : r = .ok a e := by
  cases r with
  | ok a' e' => exact h
  | ex c e' => cases h
  | bad => cases h
theorem loopC_go {f : D → Env → R (Option D)} {x : D} {xs : List D} {e : Env} {β γ : Type} {P2 : Po β γ} {k : List D → Env → R β} {Q : γ → Hp → Prop} (h : Wp L fl W P2 A H σ os ((loopC f (x :: xs) e).calm.bnd k) Q) :
    ∃ o e1, f x e = .ok o e1 ∧ Wp L fl W P2 A H σ os ((loopC f xs e1).calm.bnd fun r e2 => k (match o with | some d => d :: r | none => r) e2) Q := by
  rw [loopC] at h
  cases q : f x e with
  | bad => rw [q] at h; exact h.elim
  | ex c e1 => rw [q] at h; exact h.elim
  | ok o e1 =>
    rw [q] at h
    refine ⟨o, e1, rfl, ?_⟩
    simp only [Sb.R.bnd] at h ⊢
    cases q2 : loopC f xs e1 with
    | bad => rw [q2] at h; exact h.elim
    | ex c e2 => rw [q2] at h; exact h.elim
    | ok r e2 => rw [q2] at h; exact h
theorem optEnv_ok {β : Type} {o : Option Env} {f : Env → R β} {b : β} {e' : Env} (h : optEnv o f = .ok b e') : ∃ e, o = some e ∧ f e = .ok b e' := by
  cases o with
  | none => cases h
  | some e => exact ⟨e, rfl, h⟩
theorem inB_ok {β : Type} {own : List Nat} {f : Env → R β} {s e' : Env} {b : β} (h : inB own f s = .ok b e') : ∃ s0 s4, wipeE own s = some s0 ∧ f s0 = .ok b s4 ∧ e' = backE own s s4 := by
  unfold inB at h
  obtain ⟨s0, h0, h⟩ := optEnv_ok h
  obtain ⟨o, s4, h1, h2⟩ := R.bnd_ok h
  cases h2
  exact ⟨s0, s4, h0, h1, rfl⟩
theorem stp_reps {L : Lk} {B : AP} {H H' : Hp} (ex : Ex H H') {ds : List D} {vs : List V} (h : Reps L B H ds vs) : Reps L B H' ds vs := Reps.keep (O := fun _ => False) ex.pr (fun _ z => z.elim) h
theorem t_lc {it : Itr} {t : Tg} {own : List Nat} {ts : List IT} {el : IE} (ht : ∀ i ∈ tgIx t, i ∈ own) : ∀ σ H Q, TEv C sub L W (.comp it t own ts el) σ H Q →
    tLc (TIv C sub L W it) (gTg L.K t) (TTs C sub L WF ts) (TEv C sub L WF el) own σ H Q := fun σ H Q ⟨fl, A, env, os, r, h⟩ => by
  rw [evE] at h
  refine ⟨fl, A, env, os, r, h.bnd fun ds env1 J H1 os1 ⟨A1, st1, r1, G, Y, wk, jw⟩ w => ?_⟩
  split at w
  case isFalse => exact w.elim
  rename_i hlim
  intro D hD
  have nD : ¬ A1 D := fun z => r1.dm D z hD
  obtain ⟨Ab, hAb⟩ : ∃ Ab : AP, Ab = fun a => a = D ∨ A1 a := ⟨_, rfl⟩
  have hA1 : ∀ a, A1 a → Ab a := fun a z => by rw [hAb]; exact .inr z
  have hAD : Ab D := by rw [hAb]; exact .inl rfl
  have hAe : ∀ a, Ab a → a = D ∨ A1 a := fun a z => by rw [hAb] at z; exact z
  have stD : Stp A1 H1 os1 Ab (upd H1 D (.lst [])) os1 := ⟨Sub.refl _, (Ex.new hD).pr, hA1, fun a z => (hAe a z).elim (fun z => by rw [z]; exact .inr hD) .inl⟩
  refine lc_it wk (fun i Hh => ∃ env_i os_i acc vs, EnvRep L fl Ab Hh σ env_i os_i ∧ Stp A1 H1 os1 Ab Hh os_i ∧ Hh D = some (.lst vs) ∧ Reps L (Av Ab os_i) Hh acc vs ∧ acc.length ≤ i ∧
    Wp L fl W (PV L fl) A H σ os ((loopC _ (ds.drop i) env_i).calm.bnd fun r e2 => .ok (.fr, .lst (acc ++ r)) e2) Q) ⟨env1, os1, [], [], ?_, stD, upd_same, by simp only [Reps], Nat.le_refl _, w⟩ ?_ ?_ ?_
  · exact (r1.avoid (A' := Ab) (fun a z => (hAe a z).elim (fun z => by rw [z]; exact .inr hD) .inl) (fun a z => (hAe a z).elim (fun z => by rw [z, upd_same]; simp) fun z q => r1.dm a z ((Ex.new hD).free q)) (Ex.new hD))
  · rintro i Hh hi ⟨env_i, os_i, acc, vs, rI, stI, _⟩
    exact (jw Ab Hh os_i stI.mv).1
  · rintro i x Hh H' hi ⟨env_i, os_i, acc, vs, rI, stI, hDI, rpI, hl, wI⟩ hy
    obtain ⟨d, hd, ex, rd⟩ := (jw Ab Hh os_i stI.mv).2 i x H' hi hy
    rw [List.drop_eq_getElem_cons hi, show ds[i] = d from by rw [List.getElem?_eq_getElem hi] at hd; exact Option.some.inj hd] at wI
    obtain ⟨o, e5, hf1, wN⟩ := loopC_go wI
    obtain ⟨s0, s4, hw0, hf2, e5q⟩ := inB_ok hf1
    subst e5q
    obtain ⟨s1, ha, hf3⟩ := optEnv_ok hf2
    obtain ⟨k, s2, hts, hf⟩ := R.bnd_ok hf3
    have rE : EnvRep L fl Ab H' σ env_i os_i := rI.ext ex
    have stE : Stp A1 H1 os1 Ab H' os_i := stI.trans ⟨Sub.refl _, ex.pr, fun _ z => z, fun _ z => .inl z⟩
    have r0 := rE.wipe hw0
    refine asg_g r0 rd ha fun σ2 os2 S => ⟨?_, ?_⟩
    · rw [wipe_eq (σ := L2.wipe σ own) S.len fun j hj => S.out j fun z => hj (ht j z)]
      exact wipe_eq (wipe_length _ _) fun j hj => by rw [wipe_get, if_neg fun z => hj z.1]
    refine ⟨_, Ab, s1, os2, S.rep, ?_⟩
    rw [hts]
    intro k' H3 os3 pb
    obtain rfl : k' = k := pb.2.2.2
    have st3 : Stp Ab H' os_i Ab H3 os3 := (Stp.trans ⟨S.sub, Pr.refl _, fun _ z => z, fun _ z => .inl z⟩ pb.stp)
    have out : ∀ j, j ∉ own → σ2[j]? = σ[j]? := fun j hj => by rw [S.out j fun z => hj (ht j z), wipe_get, if_neg fun z => hj z.1]
    have keepD : ∀ {Hx : Hp} {osx : OS}, Stp Ab H' os_i Ab Hx osx → Hx D = some (.lst vs) := fun st => st.lst (rE.dj D hAD) (ex D _ hDI)
    cases k' with
    | false =>
      rw [if_neg (by decide)] at hf
      cases hf
      rw [if_neg (by decide)]
      refine ⟨_, os3, acc, vs, rE.back hw0 st3 pb.2.2.1 out, stE.trans st3, keepD st3, ?_, by omega, wN⟩
      exact st3.reps (stp_reps ex rpI)
    | true =>
      rw [if_pos rfl] at hf
      obtain ⟨y, s3, hel, hf⟩ := R.bnd_ok hf
      cases hem : emb y with
      | none => rw [hem] at hf; cases hf
      | some dy =>
        rw [hem] at hf
        cases hf
        rw [if_pos rfl]
        refine ⟨_, Ab, s2, os3, pb.2.2.1, ?_⟩
        rw [hel]
        intro v4 H4 os4 pv
        have pv' := pv.emb pb.2.2.1.dm hem
        have st4 : Stp Ab H' os_i Ab H4 os4 := st3.trans pv'.stp
        have hD4 := keepD st4
        have cD : Chg H4 D := chg_lst hD4
        have rb := rE.back hw0 st4 pv'.env out
        have kp : Pr (fun a => a = D) H4 (upd H4 D (.lst (vs ++ [v4]))) := pr_upd rfl cD
        refine ⟨vs, hD4, ?_, _, os4, acc ++ [dy], vs ++ [v4], rb.over hAD cD, (stE.trans st4).over hD cD, upd_same, ?_, ?_, ?_⟩
        · rw [← rpI.len]
          exact Nat.lt_of_lt_of_le (Nat.lt_of_le_of_lt hl hi) (lim_line hlim)
        · refine Reps.keep kp (fun a ha => by rw [ha]; exact .inl hAD) ((st4.reps (stp_reps ex rpI)).app (.one pv'.2.2.2))
        · rw [List.length_append]; simp only [List.length_cons, List.length_nil]; omega
        · have : (fun r e2 => R.ok (Knd.fr, Sb.D.lst (acc ++ (dy :: r))) e2) = fun r e2 => R.ok (Knd.fr, Sb.D.lst ((acc ++ [dy]) ++ r)) e2 := by
            funext r e2; rw [List.append_assoc]; rfl
          rw [← this]; exact wN
  · rintro Hh ⟨env_i, os_i, acc, vs, rI, stI, hDI, rpI, hl, wI⟩
    rw [List.drop_length] at wI
    have wI' : Wp L fl W (PV L fl) A H σ os (R.ok (Knd.fr, Sb.D.lst (acc ++ [])) env_i) Q := wI
    have sA : ∀ a, nA .fr (.ref D) A a → Ab a := fun a z => z.elim (fun z => by cases z; exact hAD) fun z => hA1 a (st1.inc a z)
    refine wI' (.ref D) Hh os_i ⟨stI.sub.trans st1.sub, st1.pr.trans stI.pr fun z hz => .inl (st1.sub.own z hz), rI.less sA, D, rfl, st1.pr.dom D hD, vs, hDI, ?_⟩
    rw [List.append_nil]
    exact rpI.less fun a z => z.elim (fun z => .inl (sA a z)) .inr
end
end Sb

set_option Elab.async false
set_option linter.all false
set_option maxRecDepth 100000
/-! Statements. -/
namespace Sb
open PySem L2
section
variable {L : Lk} {fl : List Bool} {A A1 : AP} {H H' H1 : Hp} {σ σ' σ1 : L2.St} {env env' env1 : Env} {os os' os1 : OS} {W : WX} {C : Cal} {sub : Nat → Nat → Bool} {X : Cx} {wf : Nat}
/-- lent parameters bear what they bore -/
def PinK (fl : List Bool) (σ : L2.St) (os : OS) (σ' : L2.St) (os' : OS) : Prop := ∀ i : Nat, fl[i]? = some true → σ'[i]? = σ[i]? ∧ ∀ o', os'[i]? = some o' → ∃ o, os[i]? = some o ∧ ∀ a ∈ o', a ∈ o
theorem PinK.refl : PinK fl σ os σ os := fun i _ => ⟨rfl, fun o h => ⟨o, h, fun _ z => z⟩⟩
theorem PinK.trans {σ2 : L2.St} {os2 : OS} (a : PinK fl σ os σ1 os1) (b : PinK fl σ1 os1 σ2 os2) : PinK fl σ os σ2 os2 := fun i h =>
  ⟨(b i h).1.trans (a i h).1, fun o e => by
    obtain ⟨o1, e1, s1⟩ := (b i h).2 o e
    obtain ⟨o2, e2, s2⟩ := (a i h).2 o1 e1
    exact ⟨o2, e2, fun x hx => s2 x (s1 x hx)⟩⟩
theorem PinK.ofSub (h : Sub os' os) : PinK fl σ os σ os' := fun i _ => ⟨rfl, fun o e => h i o e⟩
/-- owned by a name that is no lent parameter -/
def FreeOwn (fl : List Bool) (os : OS) : AP := fun a => ∃ (i : Nat) (o : List Addr), fl[i]? ≠ some true ∧ os[i]? = some o ∧ a ∈ o
theorem FreeOwn.ofSub (h : Sub os' os) : ∀ a, FreeOwn fl os' a → FreeOwn fl os a ∨ H a = none := fun a ⟨i, o, h1, h2, h3⟩ => by
  obtain ⟨o2, e2, s2⟩ := h i o h2
  exact .inl ⟨i, o2, h1, e2, s2 a h3⟩
/-- a step of a body -/
structure Go (fl : List Bool) (A : AP) (H : Hp) (σ : L2.St) (os : OS) (A1 : AP) (H1 : Hp) (σ1 : L2.St) (os1 : OS) : Prop where
  mv : Mv A H os A1 H1 os1
  pin : PinK fl σ os σ1 os1
  fre : ∀ a, FreeOwn fl os1 a → FreeOwn fl os a ∨ H a = none
theorem Go.trans {A2 : AP} {H2 : Hp} {σ2 : L2.St} {os2 : OS} (a : Go fl A H σ os A1 H1 σ1 os1) (b : Go fl A1 H1 σ1 os1 A2 H2 σ2 os2) : Go fl A H σ os A2 H2 σ2 os2 := ⟨a.mv.trans b.mv, a.pin.trans b.pin, fun x hx => (b.fre x hx).elim (a.fre x) fun z => .inr (a.mv.pr.dom x z)⟩
theorem Go.refl : Go fl A H σ os A H σ os := ⟨(Stp.refl _ _ _).mv, PinK.refl, fun _ => .inl⟩
theorem Stp.go (s : Stp A H os A1 H1 os1) : Go fl A H σ os A1 H1 σ os1 := ⟨s.mv, .ofSub s.sub, FreeOwn.ofSub s.sub⟩
theorem Go.less {A2 : AP} (g : Go fl A H σ os A1 H1 σ1 os1) (h : ∀ a, A2 a → A1 a) : Go fl A H σ os A2 H1 σ1 os1 := ⟨⟨g.mv.pr, g.mv.own, fun a z => g.mv.new a (h a z)⟩, g.pin, g.fre⟩
/-- behind a statement -/
def PSt (L : Lk) (fl : List Bool) (A : AP) (H : Hp) (σ : L2.St) (os : OS) (env' : Env) (H' : Hp) (σ' : L2.St) (os' : OS) : Prop := EnvRep L fl A H' σ' env' os' ∧ Go fl A H σ os A H' σ' os'
/-- behind a return -/
def PRt (L : Lk) (fl : List Bool) (A : AP) (H : Hp) (σ : L2.St) (os : OS) (fr : Bool) (d : D) (env' : Env) (v : V) (H' : Hp) (σ' : L2.St) (os' : OS) : Prop :=
  ∃ A', EnvRep L fl A' H' σ' env' os' ∧ Go fl A H σ os A H' σ' os' ∧ ((∀ a, A a → A' a) ∧ ∀ a, A' a → A a ∨ FreeOwn fl os a ∨ H a = none) ∧ if fr = true then ∃ p, v = .ref p ∧ (FreeOwn fl os p ∨ H p = none) ∧ A' p ∧ OwnRep L (fun a => a = p ∨ Av A os' a) H' d p else Rep L (Av A os') H' d v
def Ws (L : Lk) (fl : List Bool) (W : WX) (A : AP) (H : Hp) (σ : L2.St) (os : OS) (r : RS) (D : Ends) : Prop := match r with
  | .nxt e' => ∀ H' σ' os', PSt L fl A H σ os e' H' σ' os' → D.nx σ' H'
  | .cnt e' => ∀ H' σ' os', PSt L fl A H σ os e' H' σ' os' → D.ct σ' H'
  | .ret fr d e' => ∀ v H' σ' os', PRt L fl A H σ os fr d e' v H' σ' os' → D.rt v H'
  | .ex c e' => ∀ H' σ' os', PSt L fl A H σ os e' H' σ' os' → W (.ref (L.ca c)) none σ' H'
  | .bad => False
def TSv (C : Cal) (sub : Nat → Nat → Bool) (wf : Nat) (L : Lk) (W : WX) (s : IS) : TS := fun D σ H => ∃ fl A env os, EnvRep L fl A H σ env os ∧ Ws L fl W A H σ os (evS C sub wf s env) D
def TSSv (C : Cal) (sub : Nat → Nat → Bool) (wf : Nat) (L : Lk) (W : WX) (s : List IS) : TS := fun D σ H => ∃ fl A env os, EnvRep L fl A H σ env os ∧ Ws L fl W A H σ os (evSs C sub wf s env) D
theorem Ws.shift {r : RS} {D : Ends} (g : Go fl A H σ os A H1 σ1 os1) (h : Ws L fl W A H σ os r D) : Ws L fl W A H1 σ1 os1 r D := by
  cases r with
  | nxt e => exact fun H' σ' os' p => h H' σ' os' ⟨p.1, g.trans p.2⟩
  | cnt e => exact fun H' σ' os' p => h H' σ' os' ⟨p.1, g.trans p.2⟩
  | ret fr d e =>
    refine fun v H' σ' os' ⟨A', r', g', hA, q⟩ => h v H' σ' os' ⟨A', r', g.trans g', ⟨hA.1, fun a z => (hA.2 a z).elim .inl fun z => .inr (z.elim (g.fre a) fun z => .inr (g.mv.pr.dom a z))⟩, ?_⟩
    cases fr with
    | true =>
      rw [if_pos rfl] at q ⊢
      obtain ⟨p, e1, e2, e3⟩ := q
      exact ⟨p, e1, e2.elim (g.fre p) fun z => .inr (g.mv.pr.dom p z), e3⟩
    | false => exact q
  | ex c e => exact fun H' σ' os' p => h H' σ' os' ⟨p.1, g.trans p.2⟩
  | bad => exact h
theorem Ws.wider {r : RS} {D : Ends} (r0 : EnvRep L fl A1 H σ env os) (hA : ∀ a, A a → A1 a) (h : Ws L fl W A H σ os r D) : Ws L fl W A1 H σ os r D := by
  have back : ∀ {H' σ' os'}, Go fl A1 H σ os A1 H' σ' os' → Go fl A H σ os A H' σ' os' := fun g => ⟨⟨g.mv.pr, g.mv.own, fun a z => .inl z⟩, g.pin, g.fre⟩
  cases r with
  | nxt e => exact fun H' σ' os' p => h H' σ' os' ⟨p.1.less hA, back p.2⟩
  | cnt e => exact fun H' σ' os' p => h H' σ' os' ⟨p.1.less hA, back p.2⟩
  | ret fr d e =>
    refine fun v H' σ' os' ⟨A', r', g', hA', q⟩ => h v H' σ' os' ⟨fun a => A' a ∧ (A a ∨ FreeOwn fl os a ∨ H a = none), r'.less fun a z => z.1, back g', ⟨fun a z => ⟨hA'.1 a (hA a z), .inl z⟩, fun a z => z.2⟩, ?_⟩
    have sb : ∀ a, Av A os' a → Av A1 os' a := fun a z => z.elim (fun z => .inl (hA a z)) .inr
    cases fr with
    | true =>
      rw [if_pos rfl] at q ⊢
      obtain ⟨p, e1, e2, e3, e4⟩ := q
      exact ⟨p, e1, e2, ⟨e3, .inr e2⟩, e4.more fun a z => .inl (z.elim .inl fun z => .inr (sb a z))⟩
    | false => exact q.less sb
  | ex c e => exact fun H' σ' os' p => h H' σ' os' ⟨p.1.less hA, back p.2⟩
  | bad => exact h
/-- an expression ahead -/
theorem TEv.goS {a : IE} {f : KD → Env → RS} {D : Ends} {Q1 : VK} (r : EnvRep L fl A H σ env os) (h : Ws L fl W A H σ os ((evE C sub a env).toS f) D)
    (k : ∀ x env1 v H1 os1, PV L fl A H σ os x env1 v H1 os1 → Ws L fl W A H σ os (f x env1) D → Q1 v H1) : TEv C sub L W a σ H Q1 := by
  refine ⟨fl, A, env, os, r, ?_⟩
  cases e : evE C sub a env with
  | ok x e1 => rw [e] at h; exact fun v H1 os1 p => k x e1 v H1 os1 p h
  | ex c e1 => rw [e] at h; exact fun H1 os1 p => h H1 σ os1 ⟨p.2.2, p.stp.go⟩
  | bad => rw [e] at h; exact h.elim
/-- .. handed on -/
theorem TEv.goSE {a : IE} {f : KD → Env → RS} {D : Ends} {Q1 : VK} (r : EnvRep L fl A H σ env os) (h : Ws L fl W A H σ os ((evE C sub a env).toS f) D)
    (k : ∀ x d env1 v H1 os1, emb x = some d → EnvRep L fl A H1 σ env1 os1 → Stp A H os A H1 os1 → Rep L (Av A os1) H1 d v → Ws L fl W A H1 σ os1 (f x env1) D → Q1 v H1)
    (k0 : ∀ x env1 v H1 os1, emb x = none → EnvRep L fl A H1 σ env1 os1 → Ws L fl W A H1 σ os1 (f x env1) D → Q1 v H1) : TEv C sub L W a σ H Q1 :=
  TEv.goS r h fun x env1 v H1 os1 p w => by
    cases e : emb x with
    | some d =>
      have p' := p.emb r.dm e
      exact k x d env1 v H1 os1 e p'.env p'.stp p'.2.2.2 (w.shift p'.stp.go)
    | none =>
      have r1 : EnvRep L fl A H1 σ env1 os1 := p.env.less p.stp.inc
      exact k0 x env1 v H1 os1 e r1 (w.shift (Stp.go ⟨p.1, p.2.1, fun _ z => z, fun _ z => .inl z⟩))
theorem TTv.goS {a : IT} {f : Bool → Env → RS} {D : Ends} {Q1 : Bool → Hp → Prop} (r : EnvRep L fl A H σ env os) (h : Ws L fl W A H σ os ((evT C sub a env).toS f) D)
    (k : ∀ x env1 H1 os1, EnvRep L fl A H1 σ env1 os1 → Stp A H os A H1 os1 → Ws L fl W A H1 σ os1 (f x env1) D → Q1 x H1) : TTv C sub L W a σ H Q1 := by
  refine ⟨fl, A, env, os, r, ?_⟩
  cases e : evT C sub a env with
  | ok x e1 =>
    rw [e] at h
    intro v H1 os1 p
    obtain rfl : v = x := p.2.2.2
    exact k v e1 H1 os1 p.2.2.1 p.stp (h.shift p.stp.go)
  | ex c e1 => rw [e] at h; exact fun H1 os1 p => h H1 σ os1 ⟨p.2.2, p.stp.go⟩
  | bad => rw [e] at h; exact h.elim
/-! ### stores -/
theorem Sto.go {ix : List Nat} (s : Sto L fl A H ix σ os env' σ' os') : Go fl A H σ os A H σ' os' :=
  ⟨⟨Pr.refl _, fun a z => .inl (s.sub.own a z), fun _ z => .inl z⟩, fun i hi => ⟨s.out i (s.pin i hi), fun o e => s.sub i o e⟩, FreeOwn.ofSub s.sub⟩
/-- a new thing gets its name -/
theorem own_g {i : Nat} {d : D} {p : Addr} (r : EnvRep L fl A1 H σ env os) (hA : ∀ a, A a → A1 a) (hp : A1 p) (nA : ¬ A p) (hx : OwnRep L (Av A1 os) H d p) (h : setS i (.own false d) env = some env') :
    EnvRep L fl A H (σ.set i (some (.ref p))) env' (os.set i [p]) ∧ fl[i]? ≠ some true := by
  unfold setS at h
  cases e : env[i]? with
  | none => rw [e] at h; cases h
  | some t =>
    rw [e] at h
    simp only at h
    split at h
    · cases h
    · rename_i hpin
      cases h
      have hi : i < env.length := (List.getElem?_eq_some_iff.mp e).1
      have hpin : t.pin = false := by simpa using hpin
      have nO : ¬ Own os p := r.dj p hp
      refine ⟨r.put e (by rw [hpin]; rfl) hA List.length_set (fun j hj => List.getElem?_set_ne (by omega)) (List.getElem?_set_self (by rw [← r.le]; exact hi))
        (fun a ha => ?_) (fun a ha => ?_) (fun a ha j o hj ho hm => ?_) ⟨p, rfl, rfl, hx.more fun a ha => ?_⟩, fun z => ?_⟩
      · have : a = p := by simpa using ha
        rw [this]; exact .inl hp
      · have : a = p := by simpa using ha
        rw [this]; exact nA
      · have : a = p := by simpa using ha
        rw [this] at hm
        exact nO ⟨j, o, ho, hm⟩
      · rcases ha with ha | ha
        · exact .inl (.inl (hA a ha))
        · rcases own_set ha with ⟨j, o, _, h4, h5⟩ | h4
          · exact .inl (.inr ⟨j, o, h4, h5⟩)
          · have : a = p := by simpa using h4
            rw [this]; exact .inl (.inl hp)
      · rw [← r.fl, List.getElem?_map, e] at z
        simp [hpin] at z
theorem s_asg {i : Nat} {a : IE} : ∀ D σ H, TSv C sub wf L W (.asg i a) D σ H → tAsg (TEv C sub L W a) (gName i) D σ H := fun D σ H ⟨fl, A, env, os, r, h⟩ => by
  rw [evS] at h
  refine TEv.goS r h fun x env1 v H1 os1 p w => ?_
  obtain ⟨k, d⟩ := x
  cases k with
  | pk j => exact w.elim
  | shr =>
    have w' : Ws L fl W A H σ os (optS (setS i (.shr false d) env1)) D := w
    cases e : setS i (.shr false d) env1 with
    | none => rw [e] at w'; exact w'.elim
    | some e2 =>
      rw [e] at w'
      have s := set_g p.2.2.1 p.2.2.2 e
      exact w' H1 _ _ ⟨s.rep, p.stp.go.trans s.go⟩
  | fr =>
    have w' : Ws L fl W A H σ os (optS (setS i (.own false d) env1)) D := w
    cases e : setS i (.own false d) env1 with
    | none => rw [e] at w'; exact w'.elim
    | some e2 =>
      rw [e] at w'
      obtain ⟨q, ev, hq, own⟩ := p.2.2.2
      subst ev
      have nA : ¬ A q := fun z => r.dm q z hq
      obtain ⟨r2, hn⟩ := own_g (A := A) p.2.2.1 (fun a z => .inr z) (.inl rfl) nA own e
      refine w' H1 _ _ ⟨r2, ⟨p.2.1, fun a z => ?_, fun a z => .inl z⟩, fun j hj => ?_, fun a hj => ?_⟩
      · rcases own_set z with ⟨j, o, _, h4, h5⟩ | h4
        · exact .inl (p.1.own a ⟨j, o, h4, h5⟩)
        · have : a = q := by simpa using h4
          rw [this]; exact .inr hq
      · have : j ≠ i := fun z => hn (z ▸ hj)
        exact ⟨List.getElem?_set_ne (by omega), fun o e => by
          rw [List.getElem?_set_ne (by omega)] at e
          exact p.1 j o e⟩
      · obtain ⟨j, o, h3, h4, h5⟩ := hj
        by_cases z : j = i
        · subst z
          have : o = [q] := by
            rw [List.getElem?_set] at h4
            split at h4
            · split at h4
              · cases h4; rfl
              · cases h4
            · exact absurd rfl (by assumption)
          subst this
          have : a = q := by simpa using h5
          rw [this]; exact .inr hq
        · rw [List.getElem?_set_ne (by omega)] at h4
          exact FreeOwn.ofSub p.1 a ⟨j, o, h3, h4, h5⟩
theorem s_asgN {is : List Nat} {a : IE} : ∀ D σ H, TSv C sub wf L W (.asgN is a) D σ H → tAsg (TEv C sub L W a) (gTg L.K (.nms is)) D σ H := fun D σ H ⟨fl, A, env, os, r, h⟩ => by
  rw [evS] at h
  refine TEv.goSE r h (fun x d env1 v H1 os1 e r1 st q w => ?_) fun x env1 v H1 os1 e r1 w => ?_
  · rw [e] at w
    simp only at w
    cases e2 : asgT (.nms is) d env1 with
    | none => rw [e2] at w; exact w.elim
    | some env2 =>
      rw [e2] at w
      have w' : Ws L fl W A H1 σ os1 (.nxt env2) D := w
      exact asg_g r1 q e2 fun σ' os' s => w' H1 σ' os' ⟨s.rep, s.go⟩
  · rw [e] at w; exact w.elim
/-! ### rows of statements -/
theorem ss_nil : ∀ D σ H, TSSv C sub wf L W [] D σ H → tNext D σ H := fun D σ H ⟨fl, A, env, os, r, h⟩ => by
  rw [evSs] at h
  exact h H σ os ⟨r, .refl⟩
theorem ss_cons {s : IS} {ss : List IS} : ∀ D σ H, TSSv C sub wf L W (s :: ss) D σ H → tSeq (TSv C sub wf L W s) (TSSv C sub wf L W ss) D σ H := fun D σ H ⟨fl, A, env, os, r, h⟩ => by
  rw [evSs] at h
  refine ⟨fl, A, env, os, r, ?_⟩
  cases e : evS C sub wf s env with
  | nxt e1 =>
    rw [e] at h
    intro H' σ' os' p
    exact ⟨fl, A, e1, os', p.1, h.shift p.2⟩
  | cnt e1 => rw [e] at h; exact h
  | ret fr d e1 => rw [e] at h; exact h
  | ex c e1 => rw [e] at h; exact h
  | bad => rw [e] at h; exact h.elim
theorem s_if {c : IT} {a b : List IS} : ∀ D σ H, TSv C sub wf L W (.ifs c a b) D σ H → tIfS (TTv C sub L W c) (TSSv C sub wf L W a) (TSSv C sub wf L W b) D σ H := fun D σ H ⟨fl, A, env, os, r, h⟩ => by
  rw [evS] at h
  refine TTv.goS r h fun k env1 H1 os1 r1 st w => ?_
  cases k with
  | true => rw [if_pos rfl] at w ⊢; exact ⟨_, _, _, _, r1, w⟩
  | false => rw [if_neg (by decide)] at w ⊢; exact ⟨_, _, _, _, r1, w⟩
theorem s_pas : ∀ D σ H, TSv C sub wf L W .pas D σ H → tNext D σ H := fun D σ H ⟨fl, A, env, os, r, h⟩ => by
  rw [evS] at h
  exact h H σ os ⟨r, .refl⟩
theorem s_exp {a : IE} : ∀ D σ H, TSv C sub wf L W (.exp a) D σ H → tDrop (TEv C sub L W a) D σ H := fun D σ H ⟨fl, A, env, os, r, h⟩ => by
  rw [evS] at h
  refine TEv.goS r h fun x env1 v H1 os1 p w => ?_
  exact w H1 σ os1 ⟨p.env.less p.stp.inc, p.stp.go.less p.stp.inc⟩
/-! ### return -/
theorem s_retE {a : IE} : ∀ D σ H, TSv C sub wf L W (.ret a) D σ H → tRet (TEv C sub L W a) D σ H := fun D σ H ⟨fl, A, env, os, r, h⟩ => by
  rw [evS] at h
  refine TEv.goS r h fun x env1 v H1 os1 p w => ?_
  obtain ⟨k, d⟩ := x
  cases k with
  | pk j => exact w.elim
  | shr =>
    have w' : Ws L fl W A H σ os (.ret false d env1) D := w
    exact w' v H1 σ os1 ⟨A, p.2.2.1, p.stp.go, ⟨fun _ z => z, fun _ => .inl⟩, by rw [if_neg (by decide)]; exact p.2.2.2⟩
  | fr =>
    have w' : Ws L fl W A H σ os (.ret true d env1) D := w
    obtain ⟨q, ev, hq, own⟩ := p.2.2.2
    refine w' v H1 σ os1 ⟨_, p.2.2.1, p.stp.go.less p.stp.inc, ⟨p.stp.inc, fun a z => z.elim (fun z => by rw [ev] at z; cases z; exact .inr (.inr hq)) .inl⟩, ?_⟩
    rw [if_pos rfl]
    subst ev
    exact ⟨q, rfl, .inr hq, .inl rfl, own.more fun a z => .inl (z.elim (fun z => .inl (.inl (by rw [z]))) fun z => z.elim (fun z => .inl (.inr z)) .inr)⟩
theorem s_retV {i : Nat} : ∀ D σ H, TSv C sub wf L W (.retV i) D σ H → tRet (tVar i) D σ H := fun D σ H ⟨fl, A, env, os, r, h⟩ => by
  rw [evS] at h
  cases e : env[i]? with
  | none => rw [e] at h; exact h.elim
  | some s => cases s with
    | no => rw [e] at h; exact h.elim
    | shr p d =>
      rw [e] at h
      obtain ⟨v, o, h1, h2, h3, x, h4, h5⟩ := r.rep i _ e
      subst h4
      have w' : Ws L fl W A H σ os (.ret false d env) D := h
      exact ⟨x, h1, w' x H σ os ⟨A, r, .refl, ⟨fun _ z => z, fun _ => .inl⟩, by rw [if_neg (by decide)]; exact h5⟩⟩
    | own p d => cases p with
      | true =>
        rw [e] at h
        obtain ⟨v, h1, r2, s2, h5⟩ := r.frz e
        have w' : Ws L fl W A H σ os (.ret false d (env.set i (.shr true d))) D := h
        exact ⟨v, h1, w' v H σ _ ⟨A, r2, ⟨⟨Pr.refl _, fun a z => .inl (s2.own a z), fun _ z => .inl z⟩, .ofSub s2, FreeOwn.ofSub s2⟩, ⟨fun _ z => z, fun _ => .inl⟩, by rw [if_neg (by decide)]; exact h5⟩⟩
      | false =>
        rw [e] at h
        obtain ⟨v, o, h1, h2, q, e1, e2, h3⟩ := r.rep i _ e
        subst e1; subst e2
        have w' : Ws L fl W A H σ os (.ret true d (env.set i .no)) D := h
        have nq : ∀ a, Own (os.set i []) a → a ≠ q := fun a z => by
          rintro rfl
          rcases own_set z with ⟨j, o, hj, h4, h5⟩ | h4
          · exact hj (r.uq j i o _ a h4 h2 h5 List.mem_cons_self)
          · cases h4
        have s2 : Sub (os.set i []) os := sub_set h2 (fun a h => by cases h)
        have hp : fl[i]? ≠ some true := by rw [← r.fl, List.getElem?_map, e]; simp [Slot.pin]
        have hd : H q ≠ none := by
          obtain ⟨ob, eo, _⟩ := h3.dom
          rw [eo]; simp
        have r2 : EnvRep L fl (fun a => a = q ∨ A a) H σ (env.set i .no) (os.set i []) := r.put' e rfl
          (fun a z => z.elim (fun z => .inr ⟨i, _, h2, by rw [z]; exact List.mem_cons_self⟩) .inl) (fun a z => z.elim (fun z => by rw [z]; exact hd) (r.dm a))
          (fun a z j o hj ho hm => z.elim (fun z => hj (r.uq j i o _ q ho h2 (by rw [← z]; exact hm) List.mem_cons_self)) fun z => r.dj a z ⟨j, o, ho, hm⟩)
          rfl (fun _ _ => rfl) h1 (fun a h => by cases h) (fun a h => by cases h) (fun a h => by cases h) rfl
        refine ⟨.ref q, h1, w' _ H σ _ ⟨_, r2, ⟨⟨Pr.refl _, fun a z => .inl (s2.own a z), fun _ z => .inl z⟩, .ofSub s2, FreeOwn.ofSub s2⟩, ⟨fun _ z => .inr z, fun a z => z.elim (fun z => by rw [z]; exact .inr (.inl ⟨i, _, hp, h2, List.mem_cons_self⟩)) .inl⟩, ?_⟩⟩
        rw [if_pos rfl]
        exact ⟨q, rfl, .inl ⟨i, _, hp, h2, List.mem_cons_self⟩, .inl rfl, h3.more fun a z => .inl (z.elim (fun z => .inr ⟨i, _, h2, by rw [z]; exact List.mem_cons_self⟩) fun z => z.elim .inl fun z => .inr (s2.own a z))⟩
end
end Sb

set_option Elab.async false
set_option linter.all false
set_option maxRecDepth 100000
/-! Things changed in place; loops. -/
namespace Sb
open PySem L2
section
variable {L : Lk} {fl : List Bool} {A A1 : AP} {H H' H1 : Hp} {σ σ' σ1 : L2.St} {env env' env1 : Env} {os os' os1 : OS} {W : WX} {C : Cal} {sub : Nat → Nat → Bool} {X : Cx} {wf : Nat}
/-- the thing of an own slot -/
theorem EnvRep.own {i : Nat} {p : Bool} {d : D} (r : EnvRep L fl A H σ env os) (hi : env[i]? = some (.own p d)) : ∃ q, σ[i]? = some (some (.ref q)) ∧ os[i]? = some [q] ∧ OwnRep L (Av A os) H d q := by
  obtain ⟨v, o, h1, h2, q, e1, e2, h3⟩ := r.rep i _ hi
  subst e1; subst e2
  exact ⟨q, h1, h2, h3⟩
theorem EnvRep.mut {i : Nat} {p : Bool} {d d' : D} {q : Addr} {o' : HO} (r : EnvRep L fl A H σ env os) (hi : env[i]? = some (.own p d)) (hq : os[i]? = some [q]) (hv : σ[i]? = some (some (.ref q))) (own : OwnRep L (Av A os) H d q)
    (new : OwnRep L (Av A os) (upd H q o') d' q) : EnvRep L fl A (upd H q o') σ (env.set i (.own p d')) os ∧ Go fl A H σ os A (upd H q o') σ os := by
  have c : Chg H q := own.chg
  have hO : Own os q := ⟨i, _, hq, List.mem_cons_self⟩
  have k : Pr (fun a => a = q) H (upd H q o') := pr_upd rfl c
  have hlt : i < env.length := (List.getElem?_eq_some_iff.mp hi).1
  refine ⟨⟨by rw [List.length_set]; exact r.le, by rw [List.length_set]; exact r.lo, ?_, fun j s hs => ?_, r.uq, r.dj, fun a ha z => r.dm a ha (k.dom a z), tabs_upd r.tab c⟩, ⟨⟨pr_upd hO c, fun _ z => .inl z, fun _ z => .inl z⟩, .refl, fun _ => .inl⟩⟩
  · rw [← r.fl, List.map_set]
    refine List.ext_getElem? fun j => ?_
    rw [List.getElem?_set]
    split
    · rename_i e
      subst e
      rw [List.length_map, if_pos hlt, List.getElem?_map, hi]; rfl
    · rfl
  · by_cases e : j = i
    · subst e
      rw [List.getElem?_set_self hlt] at hs
      cases hs
      exact ⟨_, _, hv, hq, q, rfl, rfl, new⟩
    · rw [List.getElem?_set_ne (by omega)] at hs
      obtain ⟨v, o, a1, a2, a3⟩ := r.rep j s hs
      exact ⟨v, o, a1, a2, a3.keep k (fun a z => by rw [z]; exact .inr hO) fun a ha z => e (r.uq j i o _ q a2 hq (by rw [← z]; exact ha) List.mem_cons_self)⟩
theorem Reps.upd {B : AP} {H : Hp} {q : Addr} {o' : HO} {ds : List D} {vs : List V} (h : Reps L B H ds vs) (hB : B q) (c : Chg H q) : Reps L B (L2.upd H q o') ds vs :=
  Reps.keep (O := fun a => a = q) (pr_upd rfl c) (fun a z => by rw [z]; exact hB) h
theorem own_lst {ds : List D} {q : Addr} {B : AP} (h : OwnRep L B H (.lst ds) q) : ∃ vs, H q = some (.lst vs) ∧ Reps L B H ds vs := h
/-! ### x.append(e) -/
theorem s_app {i : Nat} {a : IE} : ∀ D σ H, TSv C sub wf L W (.app i a) D σ H → tDrop (tBM L.K "list" rAppend (tVar i) (tCons (TEv C sub L W a) tNil)) D σ H := fun D σ H ⟨fl, A, env, os, r, h⟩ => by
  rw [evS] at h
  split at h
  case h_2 => exact h.elim
  rename_i p0 ds0 e0
  obtain ⟨q, hv, hq, own⟩ := r.own e0
  obtain ⟨vs0, hl0, _⟩ := own_lst own
  refine ⟨.ref q, hv, .inl ⟨rfl, vs0, .of hl0⟩, ?_⟩
  refine TEv.goSE r h (fun x d env1 v H1 os1 e r1 st rd w => ?_) fun x env1 v H1 os1 e r1 w => ?_
  · rw [e] at w
    split at w
    case h_2 => exact w.elim
    rename_i d' p ds e1 e2
    cases e1
    split at w
    case isFalse => exact w.elim
    rename_i hlt
    obtain ⟨q', hv', hq', own'⟩ := r1.own e2
    rw [hv] at hv'
    cases hv'
    obtain ⟨vs, hl, rp⟩ := own_lst own'
    have hB : Av A os1 q := .inr ⟨i, _, hq', List.mem_cons_self⟩
    refine ⟨q, vs, v, rfl, rfl, hl, by rw [← rp.len]; exact Nat.lt_of_lt_of_le hlt (by decide), ?_⟩
    obtain ⟨r2, g2⟩ := r1.mut (o' := .lst (vs ++ [v])) e2 hq' hv own' (d' := .lst (ds ++ [d])) ⟨_, upd_same, (rp.app (.one rd)).upd hB own'.chg⟩
    exact w _ _ _ ⟨r2, g2⟩
  · rw [e] at w
    split at w
    · rename_i e1 _; cases e1
    · exact w.elim
/-! ### x[i] = e -/
def rSetG : TSet := fun o i v H Q => rSetL o i v H Q ∨ rSetD o i v H Q
theorem set_any (hu : X.A.units + 1 < cLine) : PSet X rSetG := by
  intro pins s σ H o i v ov iv u Q I ro ri rv q
  rcases q with q | q
  · exact set_list pins s σ H o i v ov iv u Q I ro ri rv q
  · exact set_dict hu pins s σ H o i v ov iv u Q I ro ri rv q
theorem s_seti {i : Nat} {ix a : IE} : ∀ D σ H, TSv C sub wf L W (.seti i ix a) D σ H → tAsg (TEv C sub L W a) (gSub (tVar i) (TEv C sub L W ix) rSetG) D σ H := fun D σ H ⟨fl, A, env, os, r, h⟩ => by
  rw [evS] at h
  refine TEv.goSE r h (fun x d env1 v H1 os1 e r1 st rd w => ?_) fun x env1 v H1 os1 e r1 w => ?_
  · rw [e] at w
    split at w
    case h_2 => exact w.elim
    rename_i d' c e1 e2
    cases e1
    obtain ⟨s1, e3, e4⟩ := Option.bind_eq_some_iff.mp e2
    obtain ⟨o, ho, _⟩ := r1.at e3 e4
    refine ⟨o, ho, ?_⟩
    refine TEv.goS r1 w fun y env2 u H2 os2 p2 w2 => ?_
    have r2 : EnvRep L fl A H2 σ env2 os2 := p2.2.2.1.less p2.stp.inc
    have st2 : Stp A H1 os1 A H2 os2 := ⟨p2.1, p2.2.1, fun _ z => z, fun _ z => .inl z⟩
    have w3 := w2.shift st2.go
    cases e5 : stl y env2 with
    | none => rw [e5] at w3; exact w3.elim
    | some j =>
      rw [e5] at w3
      have rj := p2.settle (Stp.refl _ _ _) p2.2.2.1 e5
      have rd2 := st2.rep (B := fun _ => False) rd
      have w4 : Ws L fl W A H2 σ os2 (optS (setiE i j d env2)) D := w3
      unfold setiE at w4
      split at w4
      · rename_i p ds k e6
        obtain ⟨q, hv, hq, own⟩ := r2.own e6
        rw [ho] at hv; cases hv
        obtain ⟨vs, hl, rp⟩ := own_lst own
        cases e7 : ixN ds.length k with
        | none => rw [e7] at w4; exact w4.elim
        | some n =>
          rw [e7] at w4
          have hB : Av A os2 q := .inr ⟨i, _, hq, List.mem_cons_self⟩
          refine .inl ⟨q, vs, k, n, rfl, root_int rj, hl, by rw [← rp.len]; exact e7, ?_⟩
          obtain ⟨r3, g3⟩ := r2.mut (o' := .lst (vs.set n v)) e6 hq ho own (d' := .lst (ds.set n d)) ⟨_, upd_same, (rp.set n rd2).upd hB own.chg⟩
          exact w4 _ _ _ ⟨r3, g3⟩
      · rename_i p ks us k e6
        split at w4
        case isFalse => exact w4.elim
        rename_i hlt
        obtain ⟨q, hv, hq, own⟩ := r2.own e6
        rw [ho] at hv; cases hv
        have own' := own
        obtain ⟨kvs, hl, hk, nd, rp⟩ := own'
        have hB : Av A os2 q := .inr ⟨i, _, hq, List.mem_cons_self⟩
        obtain ⟨k1, k2, k3⟩ := putK_val (i := k) hk nd rp rd2
        refine .inr ⟨q, upd H2 q (.dK (L2.putK kvs (Sum.inl k) v)), rfl, ?_, ?_⟩
        · rw [root_int rj]
          exact DPut.k (k := Sum.inl k) hl (by rw [← keysD_len hk]; exact Nat.lt_of_lt_of_le hlt (by decide))
        · obtain ⟨r3, g3⟩ := r2.mut (o' := .dK (L2.putK kvs (Sum.inl k) v)) e6 hq ho own (d' := .dct (putK ks us k d).1 (putK ks us k d).2) ⟨_, upd_same, k1, k2, k3.upd hB own.chg⟩
          exact w4 _ _ _ ⟨r3, g3⟩
      · exact w4.elim
  · rw [e] at w
    split at w
    · rename_i e1 _; cases e1
    · exact w.elim
/-! ### x.pop(), x.pop(k) -/
theorem t_pop {i : Nat} : ∀ σ H Q, TEv C sub L W (.pop i) σ H Q → tBM0 L.K "list" rPop (tVar i) σ H Q := fun σ H Q ⟨fl, A, env, os, r, h⟩ => by
  rw [evE] at h
  split at h
  case h_2 => exact h.elim
  rename_i p ds e0
  obtain ⟨q, hv, hq, own⟩ := r.own e0
  obtain ⟨vs, hl, rp⟩ := own_lst own
  cases e : ds.getLast? with
  | none => rw [e] at h; exact h.elim
  | some d =>
    rw [e] at h
    have hB : Av A os q := .inr ⟨i, _, hq, List.mem_cons_self⟩
    have e' : ds[ds.length - 1]? = some d := by rw [← List.getLast?_eq_getElem?]; exact e
    obtain ⟨y, hy, ry⟩ := rp.get e'
    refine ⟨.ref q, hv, .inl ⟨rfl, vs, .of hl⟩, q, vs, y, rfl, rfl, hl, by rw [← rp.len]; exact hy, ?_⟩
    have rpl : Reps L (Av A os) H ds.dropLast vs.dropLast := by
      rw [List.dropLast_eq_take, List.dropLast_eq_take, rp.len]
      exact rp.take _
    obtain ⟨r3, g3⟩ := r.mut (o' := .lst vs.dropLast) e0 hq hv own (d' := .lst ds.dropLast) ⟨_, upd_same, rpl.upd hB own.chg⟩
    exact h y _ os ⟨Sub.refl _, g3.mv.pr, r3, Rep.keep (O := fun a => a = q) (pr_upd rfl own.chg) (fun a z => by rw [z]; exact hB) ry⟩
theorem seq_ix {n : Nat} {i : Int} {j : Nat} (h : ixN n i = some j) : seqIndex? i n = some j ∧ -(n : Int) ≤ i ∧ i < n := let ⟨a, _, b, c⟩ := ixN_seq h; ⟨a, b, c⟩
theorem t_popAt {i : Nat} {k : IE} : ∀ σ H Q, TEv C sub L W (.popAt i k) σ H Q → tBM L.K "list" rPopAt (tVar i) (tCons (TEv C sub L W k) tNil) σ H Q := fun σ H Q ⟨fl, A, env, os, r, h⟩ => by
  rw [evE] at h
  split at h
  case h_2 => exact h.elim
  rename_i p0 ds0 e0
  obtain ⟨q0, hv, hq0, own0⟩ := r.own e0
  obtain ⟨vs0, hl0, _⟩ := own_lst own0
  refine ⟨.ref q0, hv, .inl ⟨rfl, vs0, .of hl0⟩, ?_⟩
  refine TEv.go shf_V r h fun x env1 v H1 os1 p1 r1 st1 w1 => ?_
  cases e : stl x env1 with
  | none => rw [e] at w1; exact w1.elim
  | some dj =>
    rw [e] at w1
    have rj := p1.settle (Stp.refl _ _ _) r1 e
    cases dj <;> try exact w1.elim
    rename_i j
    simp only at w1
    split at w1
    case h_2 => exact w1.elim
    rename_i p ds e1
    obtain ⟨q, hv', hq, own⟩ := r1.own e1
    rw [hv] at hv'; cases hv'
    obtain ⟨vs, hl, rp⟩ := own_lst own
    cases e2 : ixN ds.length j with
    | none => rw [e2] at w1; exact w1.elim
    | some n =>
      rw [e2] at w1
      simp only at w1
      cases e3 : ds[n]? with
      | none => rw [e3] at w1; exact w1.elim
      | some d =>
        rw [e3] at w1
        simp only at w1
        split at w1
        case isFalse => exact w1.elim
        rename_i hlim
        obtain ⟨y, hy, ry⟩ := rp.get e3
        have hB : Av (nA x.1 v A) os1 q0 := .inr ⟨i, _, hq, List.mem_cons_self⟩
        obtain ⟨s1, s2, s3⟩ := seq_ix e2
        have big : (lim : Int) < 2 ^ 62 := by decide
        refine ⟨q0, vs, j, n, y, rfl, by rw [root_int rj], hl, by omega, by omega, by rw [← rp.len]; exact s1, hy, ?_⟩
        obtain ⟨r3, g3⟩ := r1.mut (o' := .lst (vs.eraseIdx n)) e1 hq hv own (d' := .lst (ds.eraseIdx n)) ⟨_, upd_same, (rp.erase n).upd hB own.chg⟩
        exact w1 y _ os1 ⟨Sub.refl _, g3.mv.pr, r3, Rep.keep (O := fun a => a = q0) (pr_upd rfl own.chg) (fun a z => by rw [z]; exact hB) ry⟩
/-! ### x += e, ints -/
theorem s_aug {i : Nat} {a : IE} : ∀ D σ H, TSv C sub wf L W (.aug i a) D σ H → tAug i (TEv C sub L W a) (ipI fun i j => i + j) D σ H := fun D σ H ⟨fl, A, env, os, r, h⟩ => by
  rw [evS] at h
  split at h
  case h_2 => exact h.elim
  rename_i x e0
  obtain ⟨s, e1, e2⟩ := Option.bind_eq_some_iff.mp e0
  obtain ⟨v, hv, rv⟩ := r.at e1 e2
  have := root_int rv
  subst this
  refine ⟨_, hv, ?_⟩
  refine TEv.goS r h fun y env1 u H1 os1 p w => ?_
  split at w
  case h_2 => exact w.elim
  rename_i z e3
  have rz := root_int (p.settle (Stp.refl _ _ _) p.2.2.1 e3)
  subst rz
  have r1 : EnvRep L fl A H1 σ env1 os1 := p.2.2.1.less p.stp.inc
  have st : Stp A H os A H1 os1 := ⟨p.1, p.2.1, fun _ z => z, fun _ z => .inl z⟩
  refine ⟨x, z, rfl, rfl, ?_⟩
  cases e4 : setS i (.shr false (.int (x + z))) env1 with
  | none => rw [e4] at w; exact w.elim
  | some e5 =>
    rw [e4] at w
    have s := set_g r1 (x := V.int (x + z)) rep_int e4
    exact w H1 _ _ ⟨s.rep, st.go.trans s.go⟩
/-! ### for, while -/
theorem loopF_go {f : D → Env → RS} {x : D} {xs : List D} {e : Env} {D' : Ends} {Q : L2.St → Hp → Prop} (h : Ws L fl W A H σ os (loopF f (x :: xs) e) D')
    (k : ∀ e1 H' σ' os', PSt L fl A H σ os e1 H' σ' os' → Ws L fl W A H σ os (loopF f xs e1) D' → Q σ' H') : Ws L fl W A H σ os (f x e) { D' with nx := Q, ct := Q, bk := D'.nx } := by
  rw [loopF] at h
  cases q : f x e with
  | nxt e1 => rw [q] at h; exact fun H' σ' os' p => k e1 H' σ' os' p h
  | cnt e1 => rw [q] at h; exact fun H' σ' os' p => k e1 H' σ' os' p h
  | ret fr d e1 => rw [q] at h; exact h
  | ex c e1 => rw [q] at h; exact h
  | bad => rw [q] at h; exact h
theorem s_for {it : Itr} {t : Tg} {b : List IS} : ∀ D σ H, TSv C sub wf L W (.for_ it t b) D σ H → tFor (TIv C sub L W it) (gTg L.K t) (TSSv C sub wf L W b) D σ H := fun D σ H ⟨fl, A, env, os, r, h⟩ => by
  rw [evS] at h
  refine ⟨fl, A, env, os, r, ?_⟩
  cases e : evI C sub it env with
  | bad => rw [e] at h; exact h.elim
  | ex c e1 => rw [e] at h; exact fun H1 os1 p => h H1 σ os1 ⟨p.2.2, p.stp.go⟩
  | ok ds env1 =>
    rw [e] at h
    rintro J H1 os1 ⟨A1, st1, r1, G, Y, wk, jw⟩
    have h1 : Ws L fl W A1 H1 σ os1 (loopF (fun x s => match asgT t x s with
      | some s1 => evSs C sub wf b s1
      | none => .bad) ds env1) D := (Ws.wider r1 st1.inc (Ws.shift (st1.go.less st1.inc) h))
    refine for_it wk (fun i σi Hi => ∃ env_i os_i, EnvRep L fl A1 Hi σi env_i os_i ∧ Go fl A1 H1 σ os1 A1 Hi σi os_i ∧ Ws L fl W A1 Hi σi os_i (loopF (fun x s => match asgT t x s with
      | some s1 => evSs C sub wf b s1
      | none => .bad) (ds.drop i) env_i) D) ⟨env1, os1, r1, .refl, h1⟩ ?_ ?_ ?_
    · rintro i σi Hi hi ⟨env_i, os_i, ri, g, _⟩
      exact (jw A1 Hi os_i g.mv).1
    · rintro i x σi Hi H' hi ⟨env_i, os_i, ri, g, w⟩ hy
      obtain ⟨d, hd, ex, rd⟩ := (jw A1 Hi os_i g.mv).2 i x H' hi hy
      rw [List.drop_eq_getElem_cons hi, show ds[i] = d from by rw [List.getElem?_eq_getElem hi] at hd; exact Option.some.inj hd] at w
      have stE : Stp A1 Hi os_i A1 H' os_i := ⟨Sub.refl _, ex.pr, fun _ z => z, fun _ z => .inl z⟩
      have rE := ri.ext ex
      have gE := g.trans (stE.go (fl := fl) (σ := σi))
      have wE := loopF_go (Q := fun σ' H' => ∃ env_i os_i, EnvRep L fl A1 H' σ' env_i os_i ∧ Go fl A1 H1 σ os1 A1 H' σ' os_i ∧ Ws L fl W A1 H' σ' os_i (loopF (fun x s => match asgT t x s with
        | some s1 => evSs C sub wf b s1
        | none => .bad) (ds.drop (i + 1)) env_i) D) (w.shift (stE.go (fl := fl) (σ := σi))) fun e1 H2 σ2 os2 p w2 => ⟨e1, os2, p.1, gE.trans p.2, w2.shift p.2⟩
      cases ea : asgT t d env_i with
      | none => rw [ea] at wE; exact wE.elim
      | some s1 =>
        rw [ea] at wE
        exact asg_g rE rd ea fun σ2 os2 S => ⟨fl, A1, s1, os2, S.rep, wE.shift S.go⟩
    · rintro σi Hi ⟨env_i, os_i, ri, g, w⟩
      rw [List.drop_length] at w
      exact w Hi σi os_i ⟨ri, .refl⟩
theorem s_while {c : IT} {b : List IS} : ∀ D σ H, TSv C sub wf L W (.whl c b) D σ H → tWhile (TTv C sub L W c) (TSSv C sub wf L W b) D σ H := fun D σ H ⟨fl, A, env, os, r, h⟩ => by
  rw [evS] at h
  refine ⟨fun m σi Hi => ∃ env_i os_i, EnvRep L fl A Hi σi env_i os_i ∧ Ws L fl W A Hi σi os_i (loopW (evT C sub c) (evSs C sub wf b) m env_i) D, ⟨wf, env, os, r, h⟩, ?_⟩
  rintro m σi Hi ⟨env_i, os_i, ri, w⟩
  cases m with
  | zero => exact w.elim
  | succ m =>
    rw [loopW] at w
    refine TTv.goS ri w fun k env1 H1 os1 r1 st w1 => ?_
    cases k with
    | false => rw [if_neg (by decide)] at w1 ⊢; exact w1 H1 σi os1 ⟨r1, .refl⟩
    | true =>
      rw [if_pos rfl] at w1 ⊢
      refine ⟨fun σ' H' => ∃ env_i os_i, EnvRep L fl A H' σ' env_i os_i ∧ Ws L fl W A H' σ' os_i (loopW (evT C sub c) (evSs C sub wf b) m env_i) D, fun σ' H' n => ⟨m, Nat.lt_succ_self m, n⟩, fl, A, env1, os1, r1, ?_⟩
      cases q : evSs C sub wf b env1 with
      | nxt e1 => rw [q] at w1; exact fun H' σ' os' p => ⟨e1, os', p.1, w1.shift p.2⟩
      | cnt e1 => rw [q] at w1; exact fun H' σ' os' p => ⟨e1, os', p.1, w1.shift p.2⟩
      | ret fr d e1 => rw [q] at w1; exact w1
      | ex c e1 => rw [q] at w1; exact w1
      | bad => rw [q] at w1; exact w1.elim
/-! ### raise -/
theorem s_rse {c : Nat} : ∀ D σ H, TSv C sub wf L W (.rse c) D σ H → W (.ref (L.ca c)) none σ H := fun D σ H ⟨fl, A, env, os, r, h⟩ => by
  rw [evS] at h
  exact h H σ os ⟨r, .refl⟩
end
end Sb

set_option Elab.async false
set_option linter.all false
set_option maxRecDepth 100000
/-! Several names at once. -/
namespace Sb
open PySem L2
def KRep (L : Lk) (B A' : AP) (H H' : Hp) (k : KD) (v : V) : Prop := match k.1 with
  | .shr => Rep L B H' k.2 v
  | .fr => ∃ p, v = .ref p ∧ H p = none ∧ A' p ∧ OwnRep L B H' k.2 p
  | .pk _ => True
def KReps (L : Lk) (B A' : AP) (H H' : Hp) : List KD → List V → Prop
  | [], [] => True
  | k :: ks, v :: vs => KRep L B A' H H' k v ∧ KReps L B A' H H' ks vs
  | _, _ => False
def frA : List KD → List V → List Addr
  | (.fr, _) :: ks, .ref p :: vs => p :: frA ks vs
  | _ :: ks, _ :: vs => frA ks vs
  | _, _ => []
def PKs (L : Lk) (fl : List Bool) : Po (List KD) (List V) := fun A H σ os ks env' vs H' os' => ∃ A', Stp A H os A' H' os' ∧ EnvRep L fl A' H' σ env' os' ∧ KReps L (Av A' os') A' H H' ks vs ∧ (frA ks vs).Nodup
def setVs : List Nat → List V → L2.St → L2.St
  | i :: is, v :: vs, σ => setVs is vs (σ.set i (some v))
  | _, _, σ => σ
section
variable {L : Lk} {fl : List Bool} {A A1 : AP} {H H' H1 H0 : Hp} {σ σ' σ1 : L2.St} {env env' env1 : Env} {os os' os1 : OS} {W : WX} {C : Cal} {sub : Nat → Nat → Bool} {X : Cx} {wf : Nat}
theorem KReps.back {B A' : AP} (h : ∀ p, H1 p = none → H p = none) : ∀ {ks : List KD} {vs : List V}, KReps L B A' H1 H' ks vs → KReps L B A' H H' ks vs
  | [], [], _ => by simp only [KReps]
  | (k, d) :: ks, v :: vs, q => by
    simp only [KReps] at q ⊢
    refine ⟨?_, KReps.back h q.2⟩
    cases k with
    | shr => exact q.1
    | fr => obtain ⟨p, e, hp, r⟩ := q.1; exact ⟨p, e, h p hp, r⟩
    | pk i => trivial
  | [], _ :: _, q => by simp only [KReps] at q
  | _ :: _, [], q => by simp only [KReps] at q
theorem KReps.less {B B' A' A2 : AP} (hB : ∀ a, B' a → B a) (hA : ∀ a, A' a → A2 a) : ∀ {ks : List KD} {vs : List V}, KReps L B A' H H' ks vs → KReps L B' A2 H H' ks vs
  | [], [], _ => by simp only [KReps]
  | (k, d) :: ks, v :: vs, q => by
    simp only [KReps] at q ⊢
    refine ⟨?_, KReps.less hB hA q.2⟩
    cases k with
    | shr => exact q.1.less hB
    | fr => obtain ⟨p, e, hp, h1, r⟩ := q.1; exact ⟨p, e, hp, hA p h1, r.more fun a z => .inl (hB a z)⟩
    | pk i => trivial
  | [], _ :: _, q => by simp only [KReps] at q
  | _ :: _, [], q => by simp only [KReps] at q
theorem KReps.lessF {B B' A' A2 : AP} : ∀ {ks : List KD} {vs : List V}, KReps L B A' H H' ks vs → (∀ a, B' a → B a) → (∀ p ∈ frA ks vs, A' p → A2 p) → KReps L B' A2 H H' ks vs
  | [], [], _, _, _ => by simp only [KReps]
  | (k, d) :: ks, v :: vs, q, hB, hA => by
    simp only [KReps] at q ⊢
    cases k with
    | shr => exact ⟨q.1.less hB, KReps.lessF q.2 hB (by simpa only [frA] using hA)⟩
    | fr =>
      obtain ⟨⟨p, e, hp, h1, r⟩, q2⟩ := q
      subst e
      exact ⟨⟨p, rfl, hp, hA p (by simp [frA]) h1, r.more fun a z => .inl (hB a z)⟩, KReps.lessF q2 hB fun p hp => hA p (by simp [frA, hp])⟩
    | pk i => exact ⟨trivial, KReps.lessF q.2 hB (by simpa only [frA] using hA)⟩
  | [], _ :: _, q, _, _ => by simp only [KReps] at q
  | _ :: _, [], q, _, _ => by simp only [KReps] at q
theorem KReps.len {B A' : AP} : ∀ {ks : List KD} {vs : List V}, KReps L B A' H H' ks vs → ks.length = vs.length
  | [], [], _ => rfl
  | _ :: ks, _ :: vs, q => by simp only [KReps] at q; simp [KReps.len q.2]
  | [], _ :: _, q => by simp only [KReps] at q
  | _ :: _, [], q => by simp only [KReps] at q
theorem setP_len : ∀ {is : List Nat} {ks : List KD} {env env' : Env}, setP is ks env = some env' → ks.length = is.length
  | [], [], _, _, _ => rfl
  | _ :: is, k :: ks, env, env', h => by
    simp only [setP] at h
    cases q : kSlot k with
    | none => rw [q] at h; cases h
    | some s =>
      rw [q] at h
      simp only [Option.bind_eq_some_iff] at h
      obtain ⟨e1, _, h2⟩ := h
      simp [setP_len h2]
  | [], _ :: _, _, _, h => by simp [setP] at h
  | _ :: _, [], _, _, h => by simp [setP] at h
theorem frA_new {B A' : AP} : ∀ {ks : List KD} {vs : List V}, KReps L B A' H H' ks vs → ∀ p ∈ frA ks vs, H p = none ∧ A' p
  | [], [], _, p, hp => by simp [frA] at hp
  | (.fr, d) :: ks, v :: vs, q, p, hp => by
    simp only [KReps] at q
    obtain ⟨⟨p', e, h1, h2, _⟩, r⟩ := q
    subst e
    simp only [frA, List.mem_cons] at hp
    rcases hp with hp | hp
    · rw [hp]; exact ⟨h1, h2⟩
    · exact frA_new r p hp
  | (.shr, d) :: ks, v :: vs, q, p, hp => by
    simp only [KReps] at q
    simp only [frA] at hp
    exact frA_new q.2 p hp
  | (.pk i, d) :: ks, v :: vs, q, p, hp => by
    simp only [KReps] at q
    simp only [frA] at hp
    exact frA_new q.2 p hp
  | [], _ :: _, q, _, _ => by simp only [KReps] at q
  | _ :: _, [], q, _, _ => by simp only [KReps] at q
theorem shf_K : Shf (PKs L fl) := by
  intro A H σ os A1 H1 os1 ks env' vs H' os' st ⟨A', st2, r, k, n⟩
  exact ⟨A', st.trans st2, r, k.back st.pr.dom, n⟩
/-- the reading of a row whose new things stay new -/
def TKv (C : Cal) (sub : Nat → Nat → Bool) (L : Lk) (W : WX) (es : List IE) : TA := fun σ H Q =>
  ∃ fl A env os, EnvRep L fl A H σ env os ∧ Wp L fl W (PKs L fl) A H σ os (evPar C sub es env) Q
theorem t_knil : ∀ σ H Q, TKv C sub L W [] σ H Q → tNil σ H Q := fun σ H Q ⟨fl, A, env, os, r, h⟩ => by
  rw [evPar] at h
  exact h [] H os ⟨A, Stp.refl _ _ _, r, by simp only [KReps], by simp [frA]⟩
theorem t_kcons {a : IE} {as : List IE} : ∀ σ H Q, TKv C sub L W (a :: as) σ H Q → tCons (TEv C sub L W a) (TKv C sub L W as) σ H Q := fun σ H Q ⟨fl, A, env, os, r, h⟩ => by
  rw [evPar] at h
  refine ⟨fl, A, env, os, r, h.bnd fun x env1 v H1 os1 p w => ?_⟩
  have st := p.stp
  have r1 := p.env
  refine ⟨fl, _, env1, os1, r1, ?_⟩
  cases e : evPar C sub as env1 with
  | bad => rw [e] at w; exact w.elim
  | ex c e1 => rw [e] at w; exact fun H2 os2 q => w H2 os2 (q.shf st)
  | ok xs e2 =>
    rw [e] at w
    rintro vs H2 os2 ⟨A2, st2, r2, k2, n2⟩
    refine (show ∀ v H' os', PKs L fl A H σ os (x :: xs) e2 v H' os' → Q v H' from w) (v :: vs) H2 os2 ⟨A2, st.trans st2, r2, ?_, ?_⟩
    · simp only [KReps]
      refine ⟨?_, k2.back st.pr.dom⟩
      obtain ⟨k, d⟩ := x
      cases k with
      | shr => exact st2.rep (B := fun _ => False) p.2.2.2
      | fr =>
        obtain ⟨q, ev, hq, own⟩ := p.2.2.2
        subst ev
        exact ⟨q, rfl, hq, st2.inc q (.inl rfl), st2.ownRep (r1.dj q (.inl rfl)) own⟩
      | pk i => trivial
    · obtain ⟨k, d⟩ := x
      cases k with
      | shr => exact n2
      | fr =>
        obtain ⟨q, ev, hq, own⟩ := p.2.2.2
        subst ev
        simp only [frA, List.nodup_cons]
        exact ⟨fun hm => r1.dm q (.inl rfl) (frA_new k2 q hm).1, n2⟩
      | pk i => exact n2
/-- the stores -/
theorem setP_g (hA0 : ∀ a, A a → H0 a ≠ none) : ∀ {is : List Nat} {ks : List KD} {vs : List V} {A1 : AP} {env env' : Env} {σ : L2.St} {os : OS}, EnvRep L fl A1 H σ env os → KReps L (Av A1 os) A1 H0 H ks vs → (frA ks vs).Nodup → (∀ a, A a → A1 a) → setP is ks env = some env' →
    ∃ os', EnvRep L fl A H (setVs is vs σ) env' os' ∧ (∀ a, Own os' a → Own os a ∨ H0 a = none) ∧ PinK fl σ os (setVs is vs σ) os' ∧ (∀ a, FreeOwn fl os' a → FreeOwn fl os a ∨ H0 a = none)
  | [], [], [], A1, env, env', σ, os, r, _, _, hA, h => by
    cases h
    exact ⟨os, r.less hA, fun _ => .inl, .refl, fun _ => .inl⟩
  | i :: is, (k, d) :: ks, v :: vs, A1, env, env', σ, os, r, kr, nd, hA, h => by
    simp only [KReps] at kr
    simp only [setP] at h
    cases k with
    | pk j => simp [kSlot] at h
    | shr =>
      simp only [kSlot, Option.bind_eq_some_iff] at h
      obtain ⟨e1, h1, h2⟩ := h
      have s := set_g r kr.1 h1
      have kr' : KReps L (Av A1 (os.set i [])) A1 H0 H ks vs := KReps.less s.av (fun _ z => z) kr.2
      obtain ⟨os', a1, a2, a3, a4⟩ := setP_g hA0 s.rep kr' nd hA h2
      exact ⟨os', a1, fun a z => (a2 a z).elim (fun z => .inl (s.sub.own a z)) .inr, s.go.pin.trans a3, fun a z => (a4 a z).elim (fun z => (FreeOwn.ofSub (H := H0) s.sub a z)) .inr⟩
    | fr =>
      simp only [kSlot, Option.bind_eq_some_iff] at h
      obtain ⟨e1, h1, h2⟩ := h
      obtain ⟨⟨p, ev, hp, hp1, own⟩, kr2⟩ := kr
      subst ev
      simp only [frA, List.nodup_cons] at nd
      have nA : ¬ A p := fun z => hA0 p z hp
      obtain ⟨r2, hn⟩ := own_g (A := fun a => A1 a ∧ a ≠ p) r (fun a z => z.1) hp1 (fun z => z.2 rfl) own h1
      have ose : ∀ a, Own (os.set i [p]) a → Own os a ∨ a = p := fun a z => by
        rcases own_set z with ⟨j, o, _, h4, h5⟩ | h4
        · exact .inl ⟨j, o, h4, h5⟩
        · exact .inr (by simpa using h4)
      have kr' : KReps L (Av (fun a => A1 a ∧ a ≠ p) (os.set i [p])) (fun a => A1 a ∧ a ≠ p) H0 H ks vs := by
        refine KReps.lessF kr2 (fun a z => ?_) fun q hq hq1 => ⟨hq1, fun z => nd.1 (by rw [← z]; exact hq)⟩
        rcases z with z | z
        · exact .inl z.1
        · rcases ose a z with z | z
          · exact .inr z
          · rw [z]; exact .inl hp1
      obtain ⟨os', a1, a2, a3, a4⟩ := setP_g hA0 r2 kr' nd.2 (fun a z => ⟨hA a z, fun q => nA (by rw [← q]; exact z)⟩) h2
      have pk : PinK fl σ os (σ.set i (some (.ref p))) (os.set i [p]) := fun j hj => by
        have : j ≠ i := fun z => hn (z ▸ hj)
        exact ⟨List.getElem?_set_ne (by omega), fun o e => by
          rw [List.getElem?_set_ne (by omega)] at e
          exact ⟨o, e, fun _ z => z⟩⟩
      refine ⟨os', a1, fun a z => (a2 a z).elim (fun z => (ose a z).elim .inl fun z => .inr (by rw [z]; exact hp)) .inr, pk.trans a3, fun a z => (a4 a z).elim (fun z => ?_) .inr⟩
      obtain ⟨j, o, h3, h4, h5⟩ := z
      by_cases q : j = i
      · subst q
        rw [List.getElem?_set] at h4
        split at h4
        · split at h4
          · cases h4
            have : a = p := by simpa using h5
            rw [this]; exact .inr hp
          · cases h4
        · exact absurd rfl (by assumption)
      · rw [List.getElem?_set_ne (by omega)] at h4
        exact .inl ⟨j, o, h3, h4, h5⟩
  | [], [], _ :: _, _, _, _, _, _, _, kr, _, _, _ => by simp only [KReps] at kr
  | [], _ :: _, _, _, _, _, _, _, _, _, _, _, h => by simp [setP] at h
  | _ :: _, [], _, _, _, _, _, _, _, _, _, _, h => by simp [setP] at h
  | _ :: _, _ :: _, [], _, _, _, _, _, _, kr, _, _, _ => by simp only [KReps] at kr
theorem s_par {is : List Nat} {es : List IE} : ∀ D σ H, TSv C sub wf L W (.par is es) D σ H → is.Nodup ∧ TKv C sub L W es σ H fun vs H1 => vs.length = is.length ∧ ∀ H2, Ex H1 H2 → D.nx (setVs is vs σ) H2 := fun D σ H ⟨fl, A, env, os, r, h⟩ => by
  rw [evS] at h
  split at h
  case isFalse => exact h.elim
  rename_i hnd
  refine ⟨hnd, fl, A, env, os, r, ?_⟩
  cases e : evPar C sub es env with
  | bad => rw [e] at h; exact h.elim
  | ex c e1 => rw [e] at h; exact fun H1 os1 p => h H1 σ os1 ⟨p.2.2, p.stp.go⟩
  | ok ks e1 =>
    rw [e] at h
    rintro vs H1 os1 ⟨A1, st, r1, kr, nd⟩
    have h' : Ws L fl W A H σ os (optS (setP is ks e1)) D := h
    cases e2 : setP is ks e1 with
    | none => rw [e2] at h'; exact h'.elim
    | some e3 =>
      rw [e2] at h'
      obtain ⟨os', a1, a2, a3, a4⟩ := setP_g r.dm r1 kr nd st.inc e2
      refine ⟨?_, fun H2 ex => h' H2 _ os' ⟨a1.ext ex, ⟨st.pr.trans ex.pr (O1 := fun _ => False) fun _ z => z.elim, fun a z => (a2 a z).elim (fun z => .inl (st.sub.own a z)) .inr, fun _ z => .inl z⟩, fun i hi => ?_, fun a z => (a4 a z).elim (FreeOwn.ofSub st.sub a) .inr⟩⟩
      · rw [← KReps.len kr, setP_len e2]
      · exact ((PinK.ofSub (fl := fl) (σ := σ) st.sub).trans a3) i hi
end
end Sb

set_option Elab.async false
set_option linter.all false
set_option maxRecDepth 100000
/-! Defs: what they promise, their bodies, their calls. -/
namespace Sb
open PySem PySem.Spec PyProof.Rows L2
/-- a wish that asks nothing of the frame -/
def WE (E : XK) : WX := fun c d _ H => E c d H
/-- the promise of a def, where nothing is being shown -/
structure FnG (P : Program) (w : World) (K : PySem.W.Frag) (mg : Str → Option Value) (base : Heap) (k : Nat) (f : Addr) (fd : FuncData) (ps : List Str) (sp : Sp) : Prop where
  len : ∀ vs H Q E, sp vs H Q E → vs.length = ps.length
  run : ∀ (A : Around) (outer : List PySem.Env) (s : Shared) (H : Hp) (args : Args) (us : List Value) (vs : List V) (Q : VK) (E : XK), Room k A → A.guards = some [] → Env0 P w K mg base A outer s H →
    BindsTo s fd args (ps.zip us) → Vals vs us → sp vs H Q E → codeAny (model P w) A (.call (.ref f) args) (CR (L2.CX P w) outer P w H s Q E) s
section
variable {P : Program} {w : World} {K : PySem.W.Frag} {mg : Str → Option Value} {base : Heap} {k j : Nat} {f : Addr} {fd : FuncData} {ps : List Str} {sp sp' : Sp}
theorem FnG.mono (F : FnG P w K mg base j f fd ps sp) (h : j ≤ k) : FnG P w K mg base k f fd ps sp :=
  { len := F.len, run := fun A outer s H args us vs Q E r => F.run A outer s H args us vs Q E (r.mono h) }
theorem FnG.imp (F : FnG P w K mg base k f fd ps sp) (h : ∀ vs H Q E, sp' vs H Q E → sp vs H Q E) : FnG P w K mg base k f fd ps sp' :=
  { len := fun vs H Q E q => F.len vs H Q E (h _ _ _ _ q), run := fun A outer s H args us vs Q E r g e b v q => F.run A outer s H args us vs Q E r g e b v (h _ _ _ _ q) }
end
section
variable {X : Cx} {k : Nat} {f : Addr} {fd : FuncData} {ps : List Str} {sp : Sp} {E : XK} {x : Str} {p pos : Pos} {e : Expr} {es : List Expr} {t : TA}
/-- the callee runs -/
theorem run_g {pins : List (Addr × Obj)} {σ : L2.St} {H : Hp} {s : Shared} {Q : VK} {us : List Value} {vs : List V} (F : FnG X.prog X.w X.K X.mg X.base k f fd ps sp) (hr : Room k X.A) (hg : X.A.guards = some [])
    (hb : Binds X.K fd ps []) (tk : Takes X (WE E)) (I : Inv X pins σ H s) (r : Vals vs us) (h : sp vs H Q E) :
    wpAny (model X.prog X.w) X.A (call (.ref f) us) (EP X pins σ Q) X.xe s := by
  have e1 : us.length = ps.length := r.length.symm.trans (F.len _ _ _ _ h)
  have b1 := hb s us I.kIn (by simpa using e1)
  simp only [List.append_nil] at b1
  refine wpAny_call ?_
  refine codeAny_mono (F.run X.A X.stack s H ⟨us, []⟩ us vs Q E hr hg I.env0 b1 r h) ?_
  intro res s' hq
  cases res with
  | error e => exact passes_call tk (fun _ _ _ _ z => z) pins σ H s e s' I hq
  | ok fl => cases fl with
    | ret u => exact I.after hq
    | _ => exact False.elim hq
theorem pe_callG (F : FnG X.prog X.w X.K X.mg X.base k f fd ps sp) (hr : Room k X.A) (hgu : X.A.guards = some []) (hg : Gl X x) (hm : X.mg x = some (.ref f)) (hk : PySem.W.keepIn X.K (.ref f) = true) (hb : Binds X.K fd ps [])
    (tk : Takes X (WE E)) (ha : PA X (e :: es) t) (hdb : (x == ("__debug__" : Str)) = false) (he : starEach (e :: es) X.env = (false, eval e X.env) :: starEach es X.env) (hpl : (backTo pos (starEach es X.env)).any (·.1) = false) :
    PE X (.Call (.Name x p) (e :: es) [] pos) (fun σ H Q => t σ H fun vs H1 => sp vs H1 Q E) := by
  constructor
  intro pins s σ H Q I h
  have ev := ha.run pos pins s σ H _ I h
  refine wpAny_Call_Name_kw (ld_glob I hg hm ?_ hdb)
  refine PySem.W.callWith_K (h₀ := X.base) I.ok.mod.kin hk (thn ev ?_) he hpl
  rintro us s1 ⟨vs, H1, I1, r, q⟩
  exact ⟨I1.kIn, run_g F hr hgu hb tk I1 r q⟩
theorem pe_callG0 (F : FnG X.prog X.w X.K X.mg X.base k f fd ps sp) (hr : Room k X.A) (hgu : X.A.guards = some []) (hg : Gl X x) (hm : X.mg x = some (.ref f)) (hk : PySem.W.keepIn X.K (.ref f) = true) (hb : Binds X.K fd ps [])
    (tk : Takes X (WE E)) (hdb : (x == ("__debug__" : Str)) = false) : PE X (.Call (.Name x p) [] [] pos) (fun σ H Q => sp [] H Q E) := by
  constructor
  intro pins s σ H Q I h
  refine wpAny_Call_Name_kw (ld_glob I hg hm ?_ hdb)
  have run := run_g (us := []) (vs := []) F hr hgu hb tk I Paired.nil h
  exact PySem.W.callWith_K0 I.kIn hk run
end
/-- a def by its body -/
theorem fnG_of {P : Program} {w : World} {K : PySem.W.Frag} {mg : Str → Option Value} {base : Heap} {k : Nat} {f : Addr} {name qual : Str} {params : Arguments} {body : List Stmt} {scope : Scope} {dV kV doc pm cdv ct oc : Value} {an od : Option Addr}
    {osl : Array (Option Value)} {N ps : List Str} {sp : Sp} (lk : K.lookup f = some ⟨oc, od, .func (PySem.W.fnOf name qual params body scope dV kV doc pm an cdv ct), osl⟩) (hcd : PySem.W.codeIn K cdv qual = true) (S : FnScope N ps scope)
    (len : ∀ vs H Q E, sp vs H Q E → vs.length = ps.length)
    (hbody : ∀ (A : Around) (outer : List PySem.Env) (s : Shared) (H : Hp) (vs : List V) (Q : VK) (E : XK), Room k (A.deeper (envOfC qual scope s.heap.objs.size f cdv)) → A.guards = some [] → sp vs H Q E →
      ∃ t, PSs (cxOf (L2.CX P w) P w K mg base N qual scope f cdv A outer s H E) body t ∧ t { nx := fun _ H' => Q .non H', rt := Q } (L2.start N vs) H) :
    FnG P w K mg base (k + 1) f (PySem.W.fnOf name qual params body scope dV kV doc pm an cdv ct) ps sp := by
  constructor
  · exact len
  intro A outer s H args us vs Q E hr hgu e0 hb r hsp
  have hl := len _ _ _ _ hsp
  have inK : K.In s.heap := e0.mod.kin.keeps (fun b o e => (e0.bs b o e).1)
  have nol : s.heap.NoLimit := e0.mod.nolimit.keeps (fun b o e => (e0.bs b o e).1)
  have kinds : ∀ y ∈ ps.zip us, scope.names.lookup y.1 = some .local ∨ (scope.names.lookup y.1 = some .cell ∧ ((cellsFrom (s.heap.objs.size + 1) scope.names []).lookup y.1).isSome = true) := by
    rintro ⟨n, v⟩ hy
    exact (S.par n (List.of_mem_zip hy).1).imp id fun q => ⟨q, PySem.W.cellsFrom_some _ _ _ (.inl q)⟩
  refine codeAny_call_function hr.depth (inK _ _ lk) rfl S.co S.gen rfl (PySem.W.codeRec_of inK hcd) (hb _ _ _ _ (wpAny_newFunctionEnv_cells S.kind kinds ?_))
  intro env he s1 x
  subst he
  refine ⟨nol.keeps x.toInCall.keep, codeAny_func ?_⟩
  obtain ⟨t, ht, hq⟩ := hbody A outer s H vs Q E (hr.deeper _) hgu hsp
  have I := inv_start (CX := L2.CX P w) (E := E) (cd := cdv) (f := f) (qual := qual) S hr.hd e0 hl r x
  refine wpAny_mono (ht.run [] s1 _ H _ I hq) ?_ (fun e s' hs => hs)
  intro fl s' hs
  cases fl
  case ret u =>
    rcases hs with ⟨v, σ', H', J, rv, q⟩
    exact ⟨v, H', J.os, J.bare, J.base, J.hok, rv, q⟩
  case next =>
    rcases hs with ⟨σ', H', J, q⟩
    exact ⟨.non, H', J.os, J.bare, J.base, J.hok, rfl, q⟩
  all_goals (rcases hs with ⟨_, _, _, q⟩; exact q.elim)

/-! ### the language's defs -/
/-- behind a call, seen from the callee -/
def PC (L : Lk) (fl : List Bool) (A : AP) (H : Hp) (σ : L2.St) (os : OS) (fr : Bool) (d : D) (ss' : Env) (v : V) (H' : Hp) (os' : OS) : Prop :=
  ∃ A', EnvRep L fl A' H' σ ss' os' ∧ Sub os' os ∧ Pr (Own os) H H' ∧ (∀ a, A a → A' a) ∧ if fr = true then ∃ p, v = .ref p ∧ H p = none ∧ A' p ∧ OwnRep L (fun a => a = p ∨ Av A os' a) H' d p else Rep L (Av A os') H' d v
def Wc (L : Lk) (fl : List Bool) (A : AP) (H : Hp) (σ : L2.St) (os : OS) (r : FR) (Q : VK) (E : XK) : Prop := match r with
  | .ok fr d ss' => ∀ v H' os', PC L fl A H σ os fr d ss' v H' os' → Q v H'
  | .ex c ss' => ∀ H' os', EnvRep L fl A H' σ ss' os' ∧ Sub os' os ∧ Pr (Own os) H H' → E (.ref (L.ca c)) none H'
  | .bad => False
def spD (L : Lk) (r : List Slot → FR) : Sp := fun vs H Q E => ∃ fl A ss os, EnvRep L fl A H (vs.map some) ss os ∧ (∀ s ∈ ss, s.pin = s.isOwn) ∧ Wc L fl A H (vs.map some) os (r ss) Q E
def bkO : List Slot → OS → OS
  | s :: ss, o :: os => (if s.isOwn then o else []) :: bkO ss os
  | _, _ => []
section
variable {L : Lk} {fl : List Bool} {A A' A1 : AP} {H H' H1 : Hp} {σ σ' σ1 : L2.St} {env env' e ss : Env} {os os' os1 : OS} {W : WX} {C : Cal} {sub : Nat → Nat → Bool} {X : Cx} {wf : Nat}
theorem bk_get : ∀ {ss e : Env} {i : Nat} {s t : Slot}, ss[i]? = some s → e[i]? = some t → (bk ss e)[i]? = some (if s.isOwn then t else s)
  | s :: ss, t :: e, 0, s', t', h1, h2 => by simp at h1 h2; subst h1; subst h2; simp [bk]
  | s :: ss, t :: e, i + 1, s', t', h1, h2 => by simp only [bk, List.getElem?_cons_succ] at *; exact bk_get h1 h2
  | [], _, _, _, _, h1, _ => by simp at h1
  | _ :: _, [], _, _, _, _, h2 => by simp at h2
theorem bk_len : ∀ {ss e : Env}, ss.length ≤ e.length → (bk ss e).length = ss.length
  | [], e, h => by cases e <;> rfl
  | s :: ss, [], h => by simp at h
  | s :: ss, t :: e, h => by simp only [bk, List.length_cons] at *; rw [bk_len (by omega)]
theorem bkO_get : ∀ {ss : Env} {os : OS} {i : Nat} {s : Slot} {o : List Addr}, ss[i]? = some s → os[i]? = some o → (bkO ss os)[i]? = some (if s.isOwn then o else [])
  | s :: ss, t :: e, 0, s', t', h1, h2 => by simp at h1 h2; subst h1; subst h2; simp [bkO]
  | s :: ss, t :: e, i + 1, s', t', h1, h2 => by simp only [bkO, List.getElem?_cons_succ] at *; exact bkO_get h1 h2
  | [], _, _, _, _, h1, _ => by simp at h1
  | _ :: _, [], _, _, _, _, h2 => by simp at h2
theorem bkO_len : ∀ {ss : Env} {os : OS}, ss.length ≤ os.length → (bkO ss os).length = ss.length
  | [], e, h => by cases e <;> rfl
  | s :: ss, [], h => by simp at h
  | s :: ss, t :: e, h => by simp only [bkO, List.length_cons] at *; rw [bkO_len (by omega)]
theorem get_pad {α : Type} {l : List α} {n i : Nat} {x a : α} (h : (l ++ List.replicate n x)[i]? = some a) : l[i]? = some a ∨ (l[i]? = none ∧ a = x) := by
  by_cases hi : i < l.length
  · rw [List.getElem?_append_left hi] at h; exact .inl h
  · rw [List.getElem?_append_right (by omega)] at h
    refine .inr ⟨List.getElem?_eq_none (by omega), ?_⟩
    rw [List.getElem?_replicate] at h
    split at h
    · cases h; rfl
    · cases h
theorem own_pad {n : Nat} {a : Addr} (h : Own (os ++ List.replicate n []) a) : Own os a := by
  obtain ⟨i, o, h1, h2⟩ := h
  rcases get_pad h1 with z | ⟨_, z⟩
  · exact ⟨i, o, z, h2⟩
  · rw [z] at h2; cases h2
/-- the entry of a body -/
theorem EnvRep.entry {vs : List V} (n : Nat) (r : EnvRep L fl A H (vs.map some) ss os) : EnvRep L (fl ++ List.replicate n false) A H (vs.map some ++ List.replicate n none) (ss ++ List.replicate n .no) (os ++ List.replicate n []) := by
  have hs : ∀ a, Av A (os ++ List.replicate n []) a → Av A os a := fun a z => z.elim .inl fun z => .inr (own_pad z)
  refine ⟨by simp [r.le], by simp [r.lo], by rw [List.map_append, r.fl, List.map_replicate]; rfl, fun i s h => ?_, fun i j o o' a h1 h2 h3 h4 => ?_, fun a ha z => r.dj a ha (own_pad z), r.dm, r.tab⟩
  · rcases get_pad h with z | ⟨z, e⟩
    · obtain ⟨v, o, a1, a2, a3⟩ := r.rep i s z
      have hi : i < ss.length := (List.getElem?_eq_some_iff.mp z).1
      refine ⟨v, o, ?_, ?_, a3.more fun a z => .inl (hs a z)⟩
      · rw [List.getElem?_append_left (by rw [← r.le]; exact hi)]; exact a1
      · rw [List.getElem?_append_left (by rw [r.lo]; exact hi)]; exact a2
    · subst e
      have hi : ss.length ≤ i := List.getElem?_eq_none_iff.mp z
      have hi2 : i < (ss ++ List.replicate n Slot.no).length := (List.getElem?_eq_some_iff.mp h).1
      rw [List.length_append, List.length_replicate] at hi2
      refine ⟨none, [], ?_, ?_, rfl⟩
      · rw [List.getElem?_append_right (by rw [← r.le]; exact hi), List.getElem?_replicate, if_pos (by rw [← r.le]; omega)]
      · rw [List.getElem?_append_right (by rw [r.lo]; exact hi), List.getElem?_replicate, if_pos (by rw [r.lo]; omega)]
  · rcases get_pad h1 with z | ⟨_, z⟩
    · rcases get_pad h2 with z2 | ⟨_, z2⟩
      · exact r.uq i j o o' a z z2 h3 h4
      · rw [z2] at h4; cases h4
    · rw [z] at h3; cases h3
theorem no_free {n : Nat} (r : EnvRep L fl A H σ ss os) (hp : ∀ s ∈ ss, s.pin = s.isOwn) : ∀ a, ¬ FreeOwn (fl ++ List.replicate n false) (os ++ List.replicate n []) a := by
  rintro a ⟨i, o, h1, h2, h3⟩
  rcases get_pad h2 with z | ⟨_, z⟩
  · have hi : i < ss.length := by rw [← r.lo]; exact (List.getElem?_eq_some_iff.mp z).1
    obtain ⟨v, o', _, e2, q⟩ := r.rep i _ (List.getElem?_eq_getElem hi)
    rw [z] at e2; cases e2
    have hpi := hp (ss[i]) (List.getElem_mem hi)
    have hfl : fl[i]? = some (ss[i]).pin := by rw [← r.fl, List.getElem?_map, List.getElem?_eq_getElem hi]; rfl
    have hlt : i < fl.length := (List.getElem?_eq_some_iff.mp hfl).1
    rw [List.getElem?_append_left hlt, hfl] at h1
    cases hs : ss[i] with
    | no => rw [hs] at q; rw [show o = [] from q] at h3; cases h3
    | shr p d => rw [hs] at q; rw [show o = [] from q.1] at h3; cases h3
    | own p d =>
      rw [hs] at hpi h1
      have : (Slot.own p d).pin = true := hpi
      exact h1 (by rw [this])
  · rw [z] at h3; cases h3
/-- out of a body -/
theorem EnvRep.exit {vs : List V} {n : Nat} (r : EnvRep L fl A H (vs.map some) ss os) (hp : ∀ s ∈ ss, s.pin = s.isOwn) (r' : EnvRep L (fl ++ List.replicate n false) A' H' σ' e os')
    (g : Go (fl ++ List.replicate n false) A H (vs.map some ++ List.replicate n none) (os ++ List.replicate n []) A1 H' σ' os') (hA : ∀ a, A' a → A a ∨ H a = none) :
    EnvRep L fl A' H' (vs.map some) (bk ss e) (bkO ss os') ∧ Sub (bkO ss os') os ∧ (∀ a, Own (bkO ss os') a → Own os' a) ∧ Pr (Own os) H H' := by
  have hle : ss.length ≤ e.length := by
    have h1 : e.length = (fl ++ List.replicate n false).length := by rw [← r'.fl, List.length_map]
    have h2 : fl.length = ss.length := by rw [← r.fl, List.length_map]
    rw [h1, List.length_append, h2]
    omega
  have hlo : ss.length ≤ os'.length := by rw [r'.lo]; exact hle
  have at1 : ∀ i (hi : i < ss.length), (bkO ss os')[i]? = some (if (ss[i]).isOwn then os'[i] else []) := fun i hi => bkO_get (List.getElem?_eq_getElem hi) (List.getElem?_eq_getElem (by omega))
  have lb : (bkO ss os').length = ss.length := bkO_len hlo
  have inv : ∀ {i : Nat} {o : List Addr}, (bkO ss os')[i]? = some o → ∃ (hi : i < ss.length), o = (if (ss[i]).isOwn then os'[i] else []) := fun {i o} h => by
    have hi : i < ss.length := by rw [← lb]; exact (List.getElem?_eq_some_iff.mp h).1
    rw [at1 i hi] at h
    exact ⟨hi, (Option.some.inj h).symm⟩
  have inO : ∀ {i : Nat} {o : List Addr} {a : Addr}, (bkO ss os')[i]? = some o → a ∈ o → ∃ o', os'[i]? = some o' ∧ a ∈ o' := fun {i o a} h ha => by
    obtain ⟨hi, e⟩ := inv h
    refine ⟨os'[i], List.getElem?_eq_getElem (by omega), ?_⟩
    subst e
    split at ha
    · exact ha
    · exact absurd ha List.not_mem_nil
  have ownI : ∀ a, Own (bkO ss os') a → Own os' a := fun a ⟨i, o, h1, h2⟩ => by
    obtain ⟨o', h3, h4⟩ := inO h1 h2
    exact ⟨i, o', h3, h4⟩
  have pr : Pr (Own os) H H' := g.mv.pr.mono fun a z => own_pad z
  have flAt : ∀ i (hi : i < ss.length), (fl ++ List.replicate n false)[i]? = some (ss[i]).pin := fun i hi => by
    have hfl : fl[i]? = some (ss[i]).pin := by rw [← r.fl, List.getElem?_map, List.getElem?_eq_getElem hi]; rfl
    rw [List.getElem?_append_left (List.getElem?_eq_some_iff.mp hfl).1, hfl]
  have mv : Mv A H os A' H' (bkO ss os') := ⟨pr, fun a z => ((g.mv.own a (ownI a z)).imp own_pad id), hA⟩
  refine ⟨⟨by rw [bk_len hle]; exact r.le, by rw [lb, bk_len hle], ?_, fun i s hs => ?_, fun i j o o' a h1 h2 h3 h4 => ?_, fun a ha z => r'.dj a ha (ownI a z), r'.dm, r'.tab⟩, fun i o h => ?_, ownI, pr⟩
  · rw [← r.fl]
    refine List.ext_getElem? fun i => ?_
    rw [List.getElem?_map, List.getElem?_map]
    by_cases hi : i < ss.length
    · have hi2 : i < e.length := by omega
      rw [bk_get (List.getElem?_eq_getElem hi) (List.getElem?_eq_getElem hi2), List.getElem?_eq_getElem hi]
      have q : (fl ++ List.replicate n false)[i]? = some (e[i]).pin := by rw [← r'.fl, List.getElem?_map, List.getElem?_eq_getElem hi2]; rfl
      rw [flAt i hi] at q
      simp only [Option.map_some]
      split
      · exact q.symm
      · rfl
    · rw [List.getElem?_eq_none (by rw [bk_len hle]; omega), List.getElem?_eq_none (by omega)]
  · have hi : i < ss.length := by rw [← bk_len hle]; exact (List.getElem?_eq_some_iff.mp hs).1
    have hi2 : i < e.length := by omega
    rw [bk_get (List.getElem?_eq_getElem hi) (List.getElem?_eq_getElem hi2)] at hs
    obtain ⟨v, o, a1, a2, a3⟩ := r.rep i _ (List.getElem?_eq_getElem hi)
    refine ⟨v, _, a1, at1 i hi, ?_⟩
    have hpi := hp (ss[i]) (List.getElem_mem hi)
    cases q : ss[i] with
    | no =>
      rw [q] at hs
      cases hs
      exact rfl
    | shr p d =>
      rw [q] at hs a3
      cases hs
      obtain ⟨e1, x, e2, rp⟩ := a3
      exact ⟨rfl, x, e2, mv.rep rp⟩
    | own p d =>
      rw [q] at hs hpi
      simp only [Slot.isOwn, if_true] at hs ⊢
      cases hs
      obtain ⟨v', o', b1, b2, b3⟩ := r'.rep i _ (List.getElem?_eq_getElem hi2)
      have hpin : (fl ++ List.replicate n false)[i]? = some true := by rw [flAt i hi, q]; exact congrArg some hpi
      have hv := (g.pin i hpin).1
      rw [List.getElem?_append_left (by rw [← r.le]; exact hi), a1] at hv
      rw [hv] at b1; cases b1
      rw [List.getElem?_eq_getElem (by omega)] at b2; cases b2
      exact b3.more fun a z => .inl (z.imp id (ownI a))
  · obtain ⟨o1, c1, c2⟩ := inO h1 h3
    obtain ⟨o2, c3, c4⟩ := inO h2 h4
    exact r'.uq i j o1 o2 a c1 c3 c2 c4
  · obtain ⟨hi, eo⟩ := inv h
    obtain ⟨v, o1, a1, a2, a3⟩ := r.rep i _ (List.getElem?_eq_getElem hi)
    refine ⟨o1, a2, fun a ha => ?_⟩
    have hpi := hp (ss[i]) (List.getElem_mem hi)
    cases q : ss[i] with
    | no => rw [q] at eo; rw [eo] at ha; exact absurd ha List.not_mem_nil
    | shr p d => rw [q] at eo; rw [eo] at ha; exact absurd ha List.not_mem_nil
    | own p d =>
      rw [q] at eo hpi
      simp only [Slot.isOwn, if_true] at eo
      have hpin : (fl ++ List.replicate n false)[i]? = some true := by rw [flAt i hi, q]; exact congrArg some hpi
      obtain ⟨o2, b1, b2⟩ := (g.pin i hpin).2 os'[i] (List.getElem?_eq_getElem (by omega))
      rw [List.getElem?_append_left (by rw [r.lo]; exact hi), a2] at b1
      cases b1
      rw [eo] at ha
      exact b2 a ha
/-- a body keeps the def's promise -/
theorem body_ok {df : Def} {vs : List V} {Q : VK} {E : XK} {ps N : List Str} (hnp : df.np = ps.length) (hnn : df.nn = N.length) (h : spD L (runDef C sub wf df) vs H Q E) :
    vs.length = ps.length ∧ TSSv C sub wf L (WE E) df.body { nx := fun _ H' => Q .non H', rt := Q } (L2.start N vs) H := by
  obtain ⟨fl, A, ss, os, r, hp, w⟩ := h
  unfold runDef at w
  split at w
  case isFalse => exact w.elim
  rename_i hl
  have hv : vs.length = ss.length := by have := r.le; rw [List.length_map] at this; exact this.symm
  refine ⟨by rw [hv, hl, hnp], fl ++ List.replicate (df.nn - df.np) false, A, ss ++ List.replicate (df.nn - df.np) .no, os ++ List.replicate (df.nn - df.np) [], ?_, ?_⟩
  · have := r.entry (df.nn - df.np)
    unfold L2.start
    rw [show N.length - vs.length = df.nn - df.np from by rw [hnn, hv, hl]]
    exact this
  · have key : ∀ {r0 : RS}, evSs C sub wf df.body (ss ++ List.replicate (df.nn - df.np) .no) = r0 → Ws L (fl ++ List.replicate (df.nn - df.np) false) (WE E) A H (L2.start N vs) (os ++ List.replicate (df.nn - df.np) []) r0 { nx := fun _ H' => Q .non H', rt := Q } := by
      intro r0 er
      rw [er] at w
      have hst : L2.start N vs = vs.map some ++ List.replicate (df.nn - df.np) none := by
        unfold L2.start
        rw [show N.length - vs.length = df.nn - df.np from by rw [hnn, hv, hl]]
      rw [hst]
      cases r0 with
      | bad => exact w.elim
      | cnt e => exact w.elim
      | nxt e =>
        rintro H' σ' os' ⟨r', g⟩
        obtain ⟨x1, x2, x3, x4⟩ := r.exit hp r' g fun a z => .inl z
        exact w .non H' _ ⟨A, x1, x2, x4, fun _ z => z, by rw [if_neg (by decide)]; simp only [Rep]⟩
      | ex c e =>
        rintro H' σ' os' ⟨r', g⟩
        obtain ⟨x1, x2, x3, x4⟩ := r.exit hp r' g fun a z => .inl z
        exact w H' _ ⟨x1, x2, x4⟩
      | ret fr d e =>
        rintro v H' σ' os' ⟨A', r', g, hA, q⟩
        have hA2 : ∀ a, A' a → A a ∨ H a = none := fun a z => (hA.2 a z).imp id fun z => z.elim (fun z => (no_free r hp a z).elim) id
        obtain ⟨x1, x2, x3, x4⟩ := r.exit hp r' g hA2
        have sb : ∀ a, Av A (bkO ss os') a → Av A os' a := fun a z => z.imp id (x3 a)
        refine w v H' _ ⟨A', x1, x2, x4, hA.1, ?_⟩
        cases fr with
        | true =>
          rw [if_pos rfl] at q ⊢
          obtain ⟨p, e1, e2, e3, e4⟩ := q
          exact ⟨p, e1, e2.elim (fun z => (no_free r hp p z).elim) id, e3, e4.more fun a z => .inl (z.imp id (sb a))⟩
        | false =>
          rw [if_neg (by decide)] at q ⊢
          exact q.less sb
    exact key rfl
end
end Sb

set_option Elab.async false
set_option linter.all false
set_option maxRecDepth 100000
/-! Calls of the language's defs, from the caller. -/
namespace Sb
open PySem PySem.Spec PyProof.Rows L2
def AVs (L : Lk) (σ : L2.St) (B : AP) (H : Hp) : List AV → List V → Prop
  | [], [] => True
  | .val d :: as, v :: vs => Rep L B H d v ∧ AVs L σ B H as vs
  | .io i :: as, v :: vs => σ[i]? = some (some v) ∧ AVs L σ B H as vs
  | _, _ => False
def PAv (L : Lk) (fl : List Bool) : Po (List AV) (List V) := fun A H σ os as env' vs H' os' => Stp A H os A H' os' ∧ EnvRep L fl A H' σ env' os' ∧ AVs L σ (Av A os') H' as vs
def TAs (C : Cal) (sub : Nat → Nat → Bool) (L : Lk) (W : WX) (as : List IA) : TA := fun σ H Q =>
  ∃ fl A env os, EnvRep L fl A H σ env os ∧ Wp L fl W (PAv L fl) A H σ os (evAs C sub as env) Q
def TAa (C : Cal) (sub : Nat → Nat → Bool) (L : Lk) (W : WX) : IA → TE
  | .e a => TEv C sub L W a
  | .io i => tVar i
/-- the callee's owners -/
def ocOf : List AV → Env → OS → OS
  | [], _, _ => []
  | .val _ :: as, e, os => [] :: ocOf as e os
  | .io i :: as, e, os => (match e[i]? with | some (.own _ _) => (os[i]?).getD [] | _ => []) :: ocOf as e os
/-- the caller's owners behind the call -/
def putO : List AV → OS → OS → OS
  | .val _ :: as, _ :: oc, os => putO as oc os
  | .io i :: as, o :: oc, os => putO as oc (os.set i o)
  | _, _, os => os
section
variable {L : Lk} {fl : List Bool} {A A' A1 : AP} {H H' H1 : Hp} {σ σ' σ1 : L2.St} {env env' e : Env} {ss : List Slot} {os os' os1 oc : OS} {W : WX} {C : Cal} {sub : Nat → Nat → Bool} {X : Cx} {wf : Nat}
theorem AVs.less {B B' : AP} (hB : ∀ a, B' a → B a) : ∀ {as : List AV} {vs : List V}, AVs L σ B H as vs → AVs L σ B' H as vs
  | [], [], h => h
  | .val d :: as, v :: vs, h => ⟨h.1.less hB, AVs.less hB h.2⟩
  | .io i :: as, v :: vs, h => ⟨h.1, AVs.less hB h.2⟩
  | [], _ :: _, h => h.elim
  | .val _ :: _, [], h => h.elim
  | .io _ :: _, [], h => h.elim
theorem shf_A : Shf (PAv L fl) := by
  intro A H σ os A1 H1 os1 as env' vs H' os' st ⟨s2, r, a⟩
  exact ⟨⟨s2.sub.trans st.sub, st.pr.trans s2.pr fun x z => .inl (st.sub.own x z), fun _ z => z, fun _ => .inl⟩, r.less st.inc, a.less fun a z => z.imp (st.inc a) id⟩
theorem Stp.avs {A1 A2 : AP} {H1 H2 : Hp} {os1 os2 : OS} (st : Stp A1 H1 os1 A2 H2 os2) : ∀ {as : List AV} {vs : List V}, AVs L σ (Av A1 os1) H1 as vs → AVs L σ (Av A2 os2) H2 as vs
  | [], [], h => h
  | .val d :: as, v :: vs, h => ⟨st.rep (B := fun _ => False) h.1, st.avs h.2⟩
  | .io i :: as, v :: vs, h => ⟨h.1, st.avs h.2⟩
  | [], _ :: _, h => h.elim
  | .val _ :: _, [], h => h.elim
  | .io _ :: _, [], h => h.elim
theorem ta_nil : ∀ σ H Q, TAs C sub L W [] σ H Q → tNil σ H Q := fun σ H Q ⟨fl, A, env, os, r, h⟩ => by
  rw [evAs] at h
  exact h [] H os ⟨Stp.refl _ _ _, r, trivial⟩
theorem ta_cons {a : IA} {as : List IA} : ∀ σ H Q, TAs C sub L W (a :: as) σ H Q → tCons (TAa C sub L W a) (TAs C sub L W as) σ H Q := fun σ H Q ⟨fl, A, env, os, r, h⟩ => by
  rw [evAs] at h
  cases a with
  | e a =>
    rw [evA] at h
    refine ⟨fl, A, env, os, r, ?_⟩
    cases q : evE C sub a env with
    | bad => rw [q] at h; exact h.elim
    | ex c e1 => rw [q] at h; exact h
    | ok x e1 =>
      rw [q] at h
      intro v H1 os1 p
      simp only [Sb.R.bnd] at h
      cases e2 : emb x with
      | none => rw [e2] at h; exact h.elim
      | some d =>
        rw [e2] at h
        have p' := p.emb r.dm e2
        have h' : Wp L fl W (PAv L fl) A H1 σ os1 ((evAs C sub as e1).bnd fun xs e2 => R.ok (AV.val d :: xs) e2) Q := Wp.shift shf_A p'.stp h
        refine ⟨fl, A, e1, os1, p'.env, h'.bnd fun xs env2 vs H2 os2 p2 w2 => ?_⟩
        exact w2 (v :: vs) H2 os2 ⟨p2.1, p2.2.1, p2.1.rep (B := fun _ => False) p'.2.2.2, p2.2.2⟩
  | io i =>
    rw [evA] at h
    cases q : (env[i]?).bind Slot.cont with
    | none => rw [q] at h; exact h.elim
    | some d =>
      rw [q] at h
      obtain ⟨s, e1, e2⟩ := Option.bind_eq_some_iff.mp q
      obtain ⟨v, hv, _⟩ := r.at e1 e2
      have h' : Wp L fl W (PAv L fl) A H σ os ((evAs C sub as env).bnd fun xs e2 => R.ok (AV.io i :: xs) e2) Q := h
      refine ⟨v, hv, fl, A, env, os, r, h'.bnd fun xs env2 vs H2 os2 p2 w2 => ?_⟩
      exact w2 (v :: vs) H2 os2 ⟨p2.1, p2.2.1, hv, p2.2.2⟩
/-! ### what the callee gets -/
theorem slots_at : ∀ {as : List AV} {vs : List V} {ss : List Slot}, EnvRep L fl A H σ e os → AVs L σ (Av A os) H as vs → slotsOf as e = some ss → ss.length = as.length ∧ vs.length = as.length ∧ (ocOf as e os).length = as.length ∧
    ∀ (k : Nat) (s : Slot), ss[k]? = some s → ∃ v o, vs[k]? = some v ∧ (ocOf as e os)[k]? = some o ∧ ((∃ d, s = .shr false d ∧ o = [] ∧ Rep L (Av A os) H d v) ∨
      ∃ i p d q, as[k]? = some (.io i) ∧ e[i]? = some (.own p d) ∧ s = .own true d ∧ o = [q] ∧ os[i]? = some [q] ∧ v = .ref q ∧ OwnRep L (Av A os) H d q)
  | [], [], ss, r, _, h => by
    simp only [slotsOf, Option.some.injEq] at h
    subst h
    exact ⟨rfl, rfl, rfl, fun k s z => by simp at z⟩
  | a :: as, v :: vs, ss, r, ha, h => by
    simp only [slotsOf] at h
    cases q1 : slotOf a e with
    | none => rw [q1] at h; simp at h
    | some s => cases q2 : slotsOf as e with
      | none => rw [q1, q2] at h; simp at h
      | some ss' =>
        rw [q1, q2] at h
        simp only [Option.some.injEq] at h
        subst h
        have ha2 : AVs L σ (Av A os) H as vs := by cases a <;> exact ha.2
        obtain ⟨l1, l2, l3, ih⟩ := slots_at r ha2 q2
        have hcons : ∃ o, ocOf (a :: as) e os = o :: ocOf as e os ∧ ((∃ d, s = .shr false d ∧ o = [] ∧ Rep L (Av A os) H d v) ∨
            ∃ i p d q, a = .io i ∧ e[i]? = some (.own p d) ∧ s = .own true d ∧ o = [q] ∧ os[i]? = some [q] ∧ v = .ref q ∧ OwnRep L (Av A os) H d q) := by
          cases a with
          | val d =>
            simp only [slotOf, Option.some.injEq] at q1
            exact ⟨[], rfl, .inl ⟨d, q1.symm, rfl, ha.1⟩⟩
          | io i =>
            simp only [slotOf] at q1
            cases q3 : e[i]? with
            | none => rw [q3] at q1; simp at q1
            | some t =>
              rw [q3] at q1
              obtain ⟨v', o', b1, b2, b3⟩ := r.rep i t q3
              rw [show σ[i]? = some (some v) from ha.1] at b1
              cases b1
              cases t with
              | no => simp at q1
              | shr p d =>
                simp only [Option.some.injEq] at q1
                obtain ⟨_, x, e2, rp⟩ := b3
                cases e2
                exact ⟨[], by simp only [ocOf, q3], .inl ⟨d, q1.symm, rfl, rp⟩⟩
              | own p d =>
                simp only [Option.some.injEq] at q1
                obtain ⟨q, e1, e2, ow⟩ := b3
                cases e2
                exact ⟨[q], by simp only [ocOf, q3, b2, Option.getD_some, e1], .inr ⟨i, p, d, q, rfl, q3, q1.symm, rfl, by rw [b2, e1], rfl, ow⟩⟩
        obtain ⟨o, ho, hc⟩ := hcons
        refine ⟨by simp [l1], by simp [l2], by rw [ho]; simp [l3], fun k s' hk => ?_⟩
        cases k with
        | zero =>
          simp only [List.getElem?_cons_zero, Option.some.injEq] at hk
          subst hk
          refine ⟨v, o, rfl, by rw [ho]; rfl, hc.imp id ?_⟩
          rintro ⟨i, p, d, q, e1, rest⟩
          exact ⟨i, p, d, q, by rw [e1]; rfl, rest⟩
        | succ k =>
          obtain ⟨v', o', c1, c2, c3⟩ := ih k s' (by simpa using hk)
          exact ⟨v', o', by simpa using c1, by rw [ho]; simpa using c2, by simpa using c3⟩
  | [], _ :: _, _, _, h, _ => h.elim
  | .val _ :: _, [], _, _, h, _ => h.elim
  | .io _ :: _, [], _, _, h, _ => h.elim
theorem ios_mem : ∀ {as : List AV} {k i : Nat}, as[k]? = some (.io i) → i ∈ iosOf as
  | .io j :: as, 0, i, h => by simp at h; simp [iosOf, h]
  | .val _ :: as, 0, i, h => by simp at h
  | .io j :: as, k + 1, i, h => by simp only [iosOf]; exact List.mem_cons_of_mem _ (ios_mem (k := k) (by simpa using h))
  | .val _ :: as, k + 1, i, h => by simp only [iosOf]; exact ios_mem (k := k) (by simpa using h)
  | [], _, _, h => by simp at h
theorem ios_at : ∀ {as : List AV} {i : Nat}, i ∈ iosOf as → ∃ k : Nat, as[k]? = some (AV.io i)
  | .io j :: as, i, h => by
    simp only [iosOf, List.mem_cons] at h
    rcases h with h | h
    · exact ⟨0, by simp [h]⟩
    · obtain ⟨k, hk⟩ := ios_at h
      exact ⟨k + 1, by simpa using hk⟩
  | .val _ :: as, i, h => by
    obtain ⟨k, hk⟩ := ios_at (as := as) h
    exact ⟨k + 1, by simpa using hk⟩
  | [], i, h => by simp [iosOf] at h
theorem ios_inj : ∀ {as : List AV} {k k' i : Nat}, (iosOf as).Nodup → as[k]? = some (.io i) → as[k']? = some (.io i) → k = k'
  | .io j :: as, 0, 0, i, _, _, _ => rfl
  | .io j :: as, 0, k' + 1, i, nd, h, h' => by
    simp only [iosOf, List.nodup_cons] at nd
    simp at h; subst h
    exact absurd (ios_mem (as := as) (k := k') (by simpa using h')) nd.1
  | .io j :: as, k + 1, 0, i, nd, h, h' => by
    simp only [iosOf, List.nodup_cons] at nd
    simp at h'; subst h'
    exact absurd (ios_mem (as := as) (k := k) (by simpa using h)) nd.1
  | .io j :: as, k + 1, k' + 1, i, nd, h, h' => by
    simp only [iosOf, List.nodup_cons] at nd
    rw [ios_inj (as := as) (k := k) (k' := k') nd.2 (by simpa using h) (by simpa using h')]
  | .val _ :: as, 0, k', i, _, h, _ => by simp at h
  | .val _ :: as, k + 1, 0, i, _, _, h => by simp at h
  | .val _ :: as, k + 1, k' + 1, i, nd, h, h' => by rw [ios_inj (as := as) (k := k) (k' := k') nd (by simpa using h) (by simpa using h')]
  | [], _, _, _, _, h, _ => by simp at h
theorem oc_own {as : List AV} {vs : List V} (r : EnvRep L fl A H σ e os) (ha : AVs L σ (Av A os) H as vs) (hs : slotsOf as e = some ss) {k : Nat} {o : List Addr} {a : Addr} (h : (ocOf as e os)[k]? = some o) (hm : a ∈ o) :
    ∃ i p d, as[k]? = some (.io i) ∧ e[i]? = some (.own p d) ∧ os[i]? = some [a] := by
  obtain ⟨l1, l2, l3, at1⟩ := slots_at r ha hs
  have hk : k < ss.length := by rw [l1, ← l3]; exact (List.getElem?_eq_some_iff.mp h).1
  obtain ⟨v, o', c1, c2, c3⟩ := at1 k _ (List.getElem?_eq_getElem hk)
  rw [h] at c2; cases c2
  rcases c3 with ⟨d, _, e2, _⟩ | ⟨i, p, d, q, e1, e2, e3, e4, e5, _⟩
  · rw [e2] at hm; exact absurd hm List.not_mem_nil
  · rw [e4] at hm
    have : a = q := by simpa using hm
    exact ⟨i, p, d, e1, e2, by rw [this]; exact e5⟩
theorem callee_rep {as : List AV} {vs : List V} (r : EnvRep L fl A H σ e os) (ha : AVs L σ (Av A os) H as vs) (hs : slotsOf as e = some ss) (nd : (iosOf as).Nodup) :
    EnvRep L (ss.map Slot.pin) (fun a => Av A os a ∧ ¬ Own (ocOf as e os) a) H (vs.map some) ss (ocOf as e os) ∧ ∀ s ∈ ss, s.pin = s.isOwn := by
  obtain ⟨l1, l2, l3, at1⟩ := slots_at r ha hs
  have oo : ∀ a, Own (ocOf as e os) a → Own os a := fun a ⟨k, o, h1, h2⟩ => by
    obtain ⟨i, p, d, _, _, e3⟩ := oc_own r ha hs h1 h2
    exact ⟨i, _, e3, List.mem_cons_self⟩
  have sb : ∀ a, Av (fun a => Av A os a ∧ ¬ Own (ocOf as e os) a) (ocOf as e os) a → Av A os a := fun a z => z.elim (fun z => z.1) fun z => .inr (oo a z)
  refine ⟨⟨by rw [List.length_map, l1, l2], by rw [l3, l1], rfl, fun k s h => ?_, fun j k o o' a h1 h2 h3 h4 => ?_, fun a z => z.2, fun a z => ?_, r.tab⟩, fun s h => ?_⟩
  · obtain ⟨v, o, c1, c2, c3⟩ := at1 k s h
    refine ⟨some v, o, by rw [List.getElem?_map, c1]; rfl, c2, ?_⟩
    rcases c3 with ⟨d, rfl, e2, e3⟩ | ⟨i, p, d, q, e1, e2, rfl, e4, e5, e6, e7⟩
    · exact ⟨e2, v, rfl, e3.less sb⟩
    · exact ⟨q, e4, by rw [e6], e7.more fun a z => .inl (sb a z)⟩
  · obtain ⟨i, p, d, e1, e2, e3⟩ := oc_own r ha hs h1 h3
    obtain ⟨i', p', d', f1, f2, f3⟩ := oc_own r ha hs h2 h4
    have : i = i' := r.uq i i' _ _ a e3 f3 List.mem_cons_self List.mem_cons_self
    subst this
    exact ios_inj nd e1 f1
  · rcases z.1 with q | q
    · exact r.dm a q
    · obtain ⟨o, e1, _⟩ := r.own_dom q
      rw [e1]; simp
  · obtain ⟨k, hk, e1⟩ := List.getElem_of_mem h
    obtain ⟨v, o, c1, c2, c3⟩ := at1 k s (by rw [List.getElem?_eq_getElem hk, e1])
    rcases c3 with ⟨d, rfl, _⟩ | ⟨i, p, d, q, _, _, rfl, _⟩ <;> rfl
/-! ### what comes back -/
theorem back1_len (a : AV) (s : Slot) (e : Env) : (back1 a s e).length = e.length := by
  unfold back1
  split
  · rfl
  · split <;> first | rfl | exact List.length_set
theorem back1_ne {a : AV} {s : Slot} {e : Env} {j : Nat} (h : a ≠ .io j) : (back1 a s e)[j]? = e[j]? := by
  unfold back1
  split
  · rfl
  · rename_i i
    have : i ≠ j := fun z => h (by rw [z])
    split
    · exact List.getElem?_set_ne (by omega)
    · rfl
theorem back1_at (i : Nat) (s : Slot) (e : Env) : (back1 (.io i) s e)[i]? = (e[i]?).map fun t => b1 t s := by
  unfold back1
  simp only
  cases q : e[i]? with
  | none => simp [q]
  | some t =>
    simp only [Option.map_some]
    exact List.getElem?_set_self (List.getElem?_eq_some_iff.mp q).1
theorem b1_pin (t s : Slot) : (b1 t s).pin = t.pin := by
  cases t <;> cases s <;> rfl
theorem back1_pin (a : AV) (s : Slot) (e : Env) : (back1 a s e).map Slot.pin = e.map Slot.pin := by
  refine List.ext_getElem? fun j => ?_
  rw [List.getElem?_map, List.getElem?_map]
  by_cases h : a = .io j
  · subst h
    rw [back1_at]
    cases e[j]? with
    | none => rfl
    | some t => simp [b1_pin]
  · rw [back1_ne h]
theorem putBack_len : ∀ (as : List AV) (ss : List Slot) (e : Env), (putBack as ss e).length = e.length
  | [], _, _ => by simp [putBack]
  | _ :: _, [], _ => by simp [putBack]
  | a :: as, s :: ss, e => by simp only [putBack]; rw [putBack_len as, back1_len]
theorem putBack_pin : ∀ (as : List AV) (ss : List Slot) (e : Env), (putBack as ss e).map Slot.pin = e.map Slot.pin
  | [], _, _ => by simp [putBack]
  | _ :: _, [], _ => by simp [putBack]
  | a :: as, s :: ss, e => by simp only [putBack]; rw [putBack_pin as, back1_pin]
theorem putO_len : ∀ (as : List AV) (oc os : OS), (putO as oc os).length = os.length
  | [], _, _ => by simp [putO]
  | .val _ :: as, [], _ => by simp [putO]
  | .io _ :: as, [], _ => by simp [putO]
  | .val _ :: as, _ :: oc, os => by simp only [putO]; exact putO_len as oc os
  | .io i :: as, o :: oc, os => by simp only [putO]; rw [putO_len as, List.length_set]
theorem back_out : ∀ {as : List AV} {ss : List Slot} {e : Env} {j : Nat}, j ∉ iosOf as → (putBack as ss e)[j]? = e[j]?
  | [], _, _, _, _ => by simp [putBack]
  | _ :: _, [], _, _, _ => by simp [putBack]
  | .val d :: as, s :: ss, e, j, h => by simp only [putBack]; rw [back_out (as := as) h, back1_ne (by simp)]
  | .io i :: as, s :: ss, e, j, h => by
    simp only [iosOf, List.mem_cons, not_or] at h
    simp only [putBack]
    rw [back_out (as := as) h.2, back1_ne (by simp only [ne_eq, AV.io.injEq]; exact fun z => h.1 z.symm)]
theorem putO_out : ∀ {as : List AV} {oc os : OS} {j : Nat}, j ∉ iosOf as → (putO as oc os)[j]? = os[j]?
  | [], _, _, _, _ => by simp [putO]
  | .val _ :: as, [], _, _, _ => by simp [putO]
  | .io _ :: as, [], _, _, _ => by simp [putO]
  | .val d :: as, s :: ss, e, j, h => by simp only [putO]; exact putO_out (as := as) h
  | .io i :: as, s :: ss, e, j, h => by
    simp only [iosOf, List.mem_cons, not_or] at h
    simp only [putO]
    rw [putO_out (as := as) h.2, List.getElem?_set_ne (by omega)]
theorem back_in : ∀ {as : List AV} {ss : List Slot} {e : Env} {k i : Nat} {t : Slot}, (iosOf as).Nodup → as[k]? = some (.io i) → ss[k]? = some t → (putBack as ss e)[i]? = (back1 (.io i) t e)[i]?
  | .io j :: as, s :: ss, e, 0, i, t, nd, h1, h2 => by
    simp only [iosOf, List.nodup_cons] at nd
    simp at h1 h2
    subst h1; subst h2
    simp only [putBack]
    exact back_out nd.1
  | .val _ :: as, s :: ss, e, 0, i, t, nd, h1, h2 => by simp at h1
  | .io j :: as, s :: ss, e, k + 1, i, t, nd, h1, h2 => by
    simp only [iosOf, List.nodup_cons] at nd
    have h1' : as[k]? = some (.io i) := by simpa using h1
    simp only [putBack]
    rw [back_in (as := as) nd.2 h1' (by simpa using h2)]
    have ne : i ≠ j := fun z => nd.1 (by rw [← z]; exact ios_mem h1')
    rw [back1_at, back1_at, back1_ne (by simp only [ne_eq, AV.io.injEq]; exact fun z => ne z.symm)]
  | .val d :: as, s :: ss, e, k + 1, i, t, nd, h1, h2 => by
    simp only [putBack]
    rw [back_in (as := as) (e := back1 (.val d) s e) nd (by simpa using h1) (by simpa using h2)]
    rfl
  | [], _, _, _, _, _, _, h, _ => by simp at h
  | _ :: _, [], _, _, _, _, _, _, h => by simp at h
theorem putO_in : ∀ {as : List AV} {oc os : OS} {k i : Nat} {o : List Addr}, (iosOf as).Nodup → as[k]? = some (.io i) → oc[k]? = some o → i < os.length → (putO as oc os)[i]? = some o
  | .io j :: as, s :: ss, e, 0, i, t, nd, h1, h2, hi => by
    simp only [iosOf, List.nodup_cons] at nd
    simp at h1 h2
    subst h1; subst h2
    simp only [putO]
    rw [putO_out nd.1, List.getElem?_set_self hi]
  | .val _ :: as, s :: ss, e, 0, i, t, nd, h1, h2, hi => by simp at h1
  | .io j :: as, s :: ss, e, k + 1, i, t, nd, h1, h2, hi => by
    simp only [iosOf, List.nodup_cons] at nd
    simp only [putO]
    exact putO_in (as := as) nd.2 (by simpa using h1) (by simpa using h2) (by rw [List.length_set]; exact hi)
  | .val d :: as, s :: ss, e, k + 1, i, t, nd, h1, h2, hi => by
    simp only [putO]
    exact putO_in (as := as) nd (by simpa using h1) (by simpa using h2) hi
  | [], _, _, _, _, _, _, h, _, _ => by simp at h
  | _ :: _, [], _, _, _, _, _, _, h, _ => by simp at h
theorem slot_io : ∀ {as : List AV} {ss : List Slot} {k i : Nat}, slotsOf as e = some ss → as[k]? = some (.io i) → ss[k]? = (match e[i]? with
    | some (.shr _ d) => some (.shr false d)
    | some (.own _ d) => some (.own true d)
    | _ => none)
  | a :: as, ss, k, i, h, hk => by
    simp only [slotsOf] at h
    cases q1 : slotOf a e with
    | none => rw [q1] at h; simp at h
    | some s => cases q2 : slotsOf as e with
      | none => rw [q1, q2] at h; simp at h
      | some ss' =>
        rw [q1, q2] at h
        simp only [Option.some.injEq] at h
        subst h
        cases k with
        | zero =>
          simp at hk
          subst hk
          simp only [slotOf] at q1
          exact List.getElem?_cons_zero.trans q1.symm
        | succ k => simpa using slot_io (as := as) q2 (by simpa using hk)
  | [], _, _, _, _, hk => by simp at hk
theorem avs_io : ∀ {as : List AV} {vs : List V} {B : AP} {k i : Nat}, AVs L σ B H as vs → as[k]? = some (.io i) → σ[i]? = (vs[k]?).map some
  | a :: as, v :: vs, B, 0, i, h, hk => by simp at hk; subst hk; simpa using h.1
  | .val _ :: as, v :: vs, B, k + 1, i, h, hk => by simpa using avs_io (as := as) h.2 (by simpa using hk)
  | .io _ :: as, v :: vs, B, k + 1, i, h, hk => by simpa using avs_io (as := as) h.2 (by simpa using hk)
  | [], _, _, _, _, _, hk => by simp at hk
  | .val _ :: _, [], _, _, _, h, _ => h.elim
  | .io _ :: _, [], _, _, _, h, _ => h.elim
theorem after_rep {as : List AV} {vs : List V} {ss' : List Slot} {oc' : OS} {Ac' : AP} (r : EnvRep L fl A H σ e os) (ha : AVs L σ (Av A os) H as vs) (hs : slotsOf as e = some ss) (nd : (iosOf as).Nodup)
    (r' : EnvRep L (ss.map Slot.pin) Ac' H' (vs.map some) ss' oc') (so : Sub oc' (ocOf as e os)) (pr : Pr (Own (ocOf as e os)) H H') (hAc : ∀ a, (Av A os a ∧ ¬ Own (ocOf as e os) a) → Ac' a)
    (hA1 : ∀ a, A1 a → A a ∨ (H a = none ∧ Ac' a)) (hd1 : ∀ a, A1 a → H' a ≠ none) :
    EnvRep L fl A1 H' σ (putBack as ss' e) (putO as oc' os) ∧ Sub (putO as oc' os) os ∧ (∀ a, Av A1 (putO as oc' os) a → Av Ac' oc' a) := by
  obtain ⟨l1, l2, l3, at1⟩ := slots_at r ha hs
  have hlss : ss'.length = as.length := by rw [r'.le, List.length_map, l2]
  have hloc : oc'.length = as.length := by rw [r'.lo, hlss]
  have oo : ∀ a, Own (ocOf as e os) a → Own os a := fun a ⟨k, o, h1, h2⟩ => by
    obtain ⟨i, p, d, _, _, e3⟩ := oc_own r ha hs h1 h2
    exact ⟨i, _, e3, List.mem_cons_self⟩
  -- the owners behind
  have osAt : ∀ {j : Nat} {o : List Addr}, (putO as oc' os)[j]? = some o → (j ∉ iosOf as ∧ os[j]? = some o) ∨ ∃ k : Nat, as[k]? = some (AV.io j) ∧ oc'[k]? = some o := fun {j o} h => by
    have hj : j < os.length := by rw [← putO_len as oc' os]; exact (List.getElem?_eq_some_iff.mp h).1
    by_cases hm : j ∈ iosOf as
    · obtain ⟨k, hk⟩ := ios_at hm
      have hk2 : k < oc'.length := by rw [hloc]; exact (List.getElem?_eq_some_iff.mp hk).1
      rw [putO_in nd hk (List.getElem?_eq_getElem hk2) hj] at h
      exact .inr ⟨k, hk, by rw [List.getElem?_eq_getElem hk2]; exact h⟩
    · rw [putO_out hm] at h
      exact .inl ⟨hm, h⟩
  have sub : Sub (putO as oc' os) os := fun j o h => by
    rcases osAt h with ⟨_, z⟩ | ⟨k, h1, h2⟩
    · exact ⟨o, z, fun _ z => z⟩
    · have hj : j < os.length := by rw [← putO_len as oc' os]; exact (List.getElem?_eq_some_iff.mp h).1
      refine ⟨os[j], List.getElem?_eq_getElem hj, fun a hm => ?_⟩
      obtain ⟨o2, h3, h4⟩ := so k o h2
      obtain ⟨i, p, d, e1, e2, e3⟩ := oc_own r ha hs h3 (h4 a hm)
      rw [h1] at e1
      cases e1
      rw [List.getElem?_eq_getElem hj] at e3
      rw [Option.some.inj e3]
      exact List.mem_cons_self
  have ownB : ∀ a, Own (putO as oc' os) a → Own oc' a ∨ (Own os a ∧ ¬ Own (ocOf as e os) a) := fun a ⟨j, o, h1, h2⟩ => by
    rcases osAt h1 with ⟨z1, z2⟩ | ⟨k, h3, h4⟩
    · refine .inr ⟨⟨j, o, z2, h2⟩, fun ⟨k, o2, h3, h4⟩ => ?_⟩
      obtain ⟨i, p, d, e1, e2, e3⟩ := oc_own r ha hs h3 h4
      have : j = i := r.uq j i _ _ a z2 e3 h2 List.mem_cons_self
      subst this
      exact z1 (ios_mem e1)
    · exact .inl ⟨k, o, h4, h2⟩
  have notOc : ∀ a, A a → ¬ Own (ocOf as e os) a := fun a z q => r.dj a z (oo a q)
  have avB : ∀ a, Av A1 (putO as oc' os) a → Av Ac' oc' a := fun a z => by
    rcases z with z | z
    · rcases hA1 a z with q | q
      · exact .inl (hAc a ⟨.inl q, notOc a q⟩)
      · exact .inl q.2
    · rcases ownB a z with q | q
      · exact .inr q
      · exact .inl (hAc a ⟨.inr q.1, q.2⟩)
  have avO : ∀ a, Av A1 (putO as oc' os) a → Av A os a ∨ H a = none := fun a z => by
    rcases z with z | z
    · exact (hA1 a z).imp .inl fun q => q.1
    · exact .inl (.inr (sub.own a z))
  refine ⟨⟨by rw [putBack_len]; exact r.le, by rw [putO_len, putBack_len]; exact r.lo, by rw [putBack_pin]; exact r.fl, fun j s hj => ?_, fun i j o o' a h1 h2 h3 h4 => ?_, fun a z q => ?_, hd1, r'.tab⟩, sub, avB⟩
  · have hjl : j < e.length := by rw [← putBack_len as ss' e]; exact (List.getElem?_eq_some_iff.mp hj).1
    obtain ⟨v, o, b1, b2, b3⟩ := r.rep j _ (List.getElem?_eq_getElem hjl)
    have hjo : j < os.length := by rw [r.lo]; exact hjl
    have stay : (∀ a ∈ o, ¬ Own (ocOf as e os) a) → SlotRep L (Av A1 (putO as oc' os)) H' v e[j] o := fun hn =>
      ((b3.more (B' := fun a => Av A os a ∨ Av A1 (putO as oc' os) a) fun a z => z.elim .inl (avO a)).keep pr (fun a z => .inl (.inr (oo a z))) hn).more fun a z => .inl (.inr z)
    by_cases hm : j ∈ iosOf as
    · obtain ⟨k, hk⟩ := ios_at hm
      have hks : k < ss'.length := by rw [hlss]; exact (List.getElem?_eq_some_iff.mp hk).1
      have hko : k < oc'.length := by rw [hloc]; exact (List.getElem?_eq_some_iff.mp hk).1
      rw [back_in nd hk (List.getElem?_eq_getElem hks)] at hj
      have hO := putO_in (os := os) nd hk (List.getElem?_eq_getElem hko) hjo
      obtain ⟨v2, o2, c1, c2, c3⟩ := r'.rep k _ (List.getElem?_eq_getElem hks)
      rw [List.getElem?_eq_getElem hko] at c2; cases c2
      have hkv : k < vs.length := by rw [l2]; exact (List.getElem?_eq_some_iff.mp hk).1
      have hkss : k < ss.length := by rw [l1]; exact (List.getElem?_eq_some_iff.mp hk).1
      obtain ⟨v3, o3, d1, d2, d3⟩ := at1 k _ (List.getElem?_eq_getElem hkss)
      have hsub := so k _ (List.getElem?_eq_getElem hko)
      cases q : e[j] with
      | no =>
        have q' : e[j]? = some .no := by rw [List.getElem?_eq_getElem hjl, q]
        rw [back1_at, q'] at hj
        simp only [Option.map_some, b1, Option.some.injEq] at hj
        subst hj
        rw [q] at b3
        refine ⟨v, oc'[k], b1, hO, ?_⟩
        obtain ⟨o4, f1, f2⟩ := hsub
        rw [d2] at f1; cases f1
        rcases d3 with ⟨d, _, e2, _⟩ | ⟨i, p, d, q2, e1, e2, _⟩
        · refine List.eq_nil_iff_forall_not_mem.mpr fun a ha => ?_
          have := f2 a ha
          rw [e2] at this
          exact absurd this List.not_mem_nil
        · rw [hk] at e1; cases e1
          rw [q'] at e2; cases e2
      | shr p d =>
        have q' : e[j]? = some (.shr p d) := by rw [List.getElem?_eq_getElem hjl, q]
        rw [back1_at, q'] at hj
        simp only [Option.map_some, b1, Option.some.injEq] at hj
        subst hj
        have hoc : oc'[k] = [] := by
          obtain ⟨o4, f1, f2⟩ := hsub
          rw [d2] at f1; cases f1
          rcases d3 with ⟨d, _, e2, _⟩ | ⟨i, p2, d', q2, e1, e2, _⟩
          · refine List.eq_nil_iff_forall_not_mem.mpr fun a ha => ?_
            have := f2 a ha
            rw [e2] at this
            exact absurd this List.not_mem_nil
          · rw [hk] at e1; cases e1
            rw [q'] at e2; cases e2
        refine ⟨v, oc'[k], b1, hO, ?_⟩
        have ho : o = [] := by rw [q] at b3; exact b3.1
        have := stay (fun a z => by rw [ho] at z; exact absurd z List.not_mem_nil)
        rw [q, ho] at this
        rw [hoc]
        exact this
      | own p d =>
        have q' : e[j]? = some (.own p d) := by rw [List.getElem?_eq_getElem hjl, q]
        have hpin : (ss.map Slot.pin)[k]? = some true := by
          rw [List.getElem?_map, List.getElem?_eq_getElem hkss]
          rcases d3 with ⟨d', e1, e2, _⟩ | ⟨i, p2, d', q2, e1, e2, e3, _⟩
          · rename_i xx
            exfalso
            -- the slot that is lent is its own
            have hh := slot_io hs hk
            rw [q', List.getElem?_eq_getElem hkss, e1] at hh
            cases hh
          · rw [e3]; rfl
        have hpin2 : (ss'[k]).pin = true := by
          have : (ss'.map Slot.pin)[k]? = some true := by rw [r'.fl]; exact hpin
          rw [List.getElem?_map, List.getElem?_eq_getElem hks] at this
          exact Option.some.inj this
        have hv2 : v2 = v := by
          rw [List.getElem?_map, List.getElem?_eq_getElem hkv] at c1
          rw [List.getElem?_eq_getElem hkv] at d1
          have hA := avs_io ha hk
          rw [b1] at hA
          rw [List.getElem?_eq_getElem hkv] at hA
          simp only [Option.map_some, Option.some.injEq] at c1 hA
          rw [← c1, ← hA]
        subst hv2
        rw [back1_at, q'] at hj
        simp only [Option.map_some, Option.some.injEq] at hj
        refine ⟨v2, oc'[k], b1, hO, ?_⟩
        cases q3 : ss'[k] with
        | no => rw [q3] at hpin2; cases hpin2
        | shr p3 d3 =>
          rw [q3] at hj c3
          have hj' : s = .shr p d3 := hj.symm
          subst hj'
          obtain ⟨g1, x, g2, g3⟩ := c3
          exact ⟨g1, x, g2, g3.less avB⟩
        | own p3 d3 =>
          rw [q3] at hj c3
          have hj' : s = .own p d3 := hj.symm
          subst hj'
          obtain ⟨x, g1, g2, g3⟩ := c3
          exact ⟨x, g1, g2, g3.more fun a z => .inl (avB a z)⟩
    · rw [back_out hm, List.getElem?_eq_getElem hjl] at hj
      cases hj
      refine ⟨v, o, b1, by rw [putO_out hm]; exact b2, stay fun a ha2 ⟨k, o2, h3, h4⟩ => ?_⟩
      obtain ⟨i, p, d, e1, e2, e3⟩ := oc_own r ha hs h3 h4
      have : j = i := r.uq j i _ _ a b2 e3 ha2 List.mem_cons_self
      subst this
      exact hm (ios_mem e1)
  · obtain ⟨o1, c1, c2⟩ := sub i o h1
    obtain ⟨o2, c3, c4⟩ := sub j o' h2
    exact r.uq i j o1 o2 a c1 c3 (c2 a h3) (c4 a h4)
  · rcases hA1 a z with q2 | q2
    · exact r.dj a q2 (sub.own a q)
    · obtain ⟨ob, eo, _⟩ := r.own_dom (sub.own a q)
      rw [q2.1] at eo; cases eo
theorem t_call {f : Nat} {as : List IA} {E : XK} : ∀ σ H Q, TEv C sub L (WE E) (.call f as) σ H Q → TAs C sub L (WE E) as σ H fun vs H1 => spD L (C f) vs H1 Q E := fun σ H Q ⟨fl, A, env, os, r, h⟩ => by
  rw [evE] at h
  refine ⟨fl, A, env, os, r, h.bnd fun xs env1 vs H1 os1 ⟨st, r1, av⟩ w => ?_⟩
  have w1 := w.shift shf_V st
  unfold doCall at w1
  split at w1
  case isFalse => exact w1.elim
  rename_i nd
  cases hs : slotsOf xs env1 with
  | none => rw [hs] at w1; exact w1.elim
  | some ss =>
    rw [hs] at w1
    simp only at w1
    obtain ⟨rc, hp⟩ := callee_rep r1 av hs nd
    refine ⟨_, _, ss, _, rc, hp, ?_⟩
    cases q : C f ss with
    | bad => rw [q] at w1; exact w1.elim
    | ex c ss' =>
      rw [q] at w1
      rintro H' oc' ⟨r', so, pr⟩
      obtain ⟨r2, s2, _⟩ := after_rep (A1 := A) r1 av hs nd r' so pr (fun _ z => z) (fun a z => .inl z) (fun a z q => r1.dm a z (pr.dom a q))
      exact w1 H' _ ⟨s2, pr.mono (fun a ⟨k, o, h1, h2⟩ => by
        obtain ⟨i, p, d, _, _, e3⟩ := oc_own r1 av hs h1 h2
        exact ⟨i, _, e3, List.mem_cons_self⟩), r2⟩
    | ok fr d ss' =>
      rw [q] at w1
      rintro v H' oc' ⟨Ac', r', so, pr, hA, hv⟩
      have prO : Pr (Own os1) H1 H' := pr.mono (fun a ⟨k, o, h1, h2⟩ => by
        obtain ⟨i, p, d, _, _, e3⟩ := oc_own r1 av hs h1 h2
        exact ⟨i, _, e3, List.mem_cons_self⟩)
      cases fr with
      | false =>
        rw [if_neg (by decide)] at hv
        obtain ⟨r2, s2, a2⟩ := after_rep (A1 := A) r1 av hs nd r' so pr hA (fun a z => .inl z) (fun a z q => r1.dm a z (pr.dom a q))
        obtain ⟨_, _, a3⟩ := after_rep (A1 := A) (Ac' := fun a => Av A os1 a ∧ ¬ Own (ocOf xs env1 os1) a) r1 av hs nd (r'.less hA) so pr (fun _ z => z) (fun a z => .inl z) (fun a z q => r1.dm a z (pr.dom a q))
        exact w1 v H' _ ⟨s2, prO, r2, hv.less a3⟩
      | true =>
        rw [if_pos rfl] at hv
        obtain ⟨p, e1, e2, e3, e4⟩ := hv
        subst e1
        have hp' : H' p ≠ none := by
          obtain ⟨o, eo, _⟩ := e4.dom
          rw [eo]; simp
        obtain ⟨r2, s2, a2⟩ := after_rep (A1 := nA .fr (.ref p) A) r1 av hs nd r' so pr hA (fun a z => z.elim (fun z => by cases z; exact .inr ⟨e2, e3⟩) .inl)
          (fun a z => z.elim (fun z => by cases z; exact hp') fun z q => r1.dm a z (pr.dom a q))
        obtain ⟨_, _, a3⟩ := after_rep (A1 := A) (Ac' := fun a => Av A os1 a ∧ ¬ Own (ocOf xs env1 os1) a) r1 av hs nd (r'.less hA) so pr (fun _ z => z) (fun a z => .inl z) (fun a z q => r1.dm a z (pr.dom a q))
        refine w1 (.ref p) H' _ ⟨s2, prO, r2, p, rfl, e2, e4.more fun a z => .inl ?_⟩
        rcases z with (z | z) | z
        · cases z; exact .inl rfl
        · exact .inr (a3 a (.inl z))
        · exact .inr (a3 a (.inr z))
end
end Sb

set_option Elab.async false
set_option linter.all false
set_option maxRecDepth 100000
/-! More operations, by the layer's rules. -/
namespace Sb
open PySem PySem.Spec PyProof.Rows L2
/-! ### sorted lists are one -/
theorem sorted_one {α : Type} {le : α → α → Prop} (anti : ∀ a b, le a b → le b a → a = b) : ∀ {l m : List α}, l.Perm m → l.Pairwise le → m.Pairwise le → l = m
  | [], m, p, _, _ => (List.nil_perm.mp p).symm
  | a :: l, [], p, _, _ => by have := p.length_eq; simp at this
  | a :: l, b :: m, p, h1, h2 => by
    rw [List.pairwise_cons] at h1 h2
    have hb : b ∈ a :: l := p.mem_iff.mpr List.mem_cons_self
    have ha : a ∈ b :: m := p.mem_iff.mp List.mem_cons_self
    have e : a = b := by
      rcases List.mem_cons.mp hb with z | z
      · exact z.symm
      · rcases List.mem_cons.mp ha with y | y
        · exact y
        · exact anti _ _ (h1.1 b z) (h2.1 a y)
    subst e
    rw [sorted_one anti (List.perm_cons a |>.mp p) h1.2 h2.2]
theorem insI_perm (x : Int) : ∀ l : List Int, (insI x l).Perm (x :: l)
  | [] => List.Perm.refl _
  | y :: r => by
    simp only [insI]
    split
    · exact List.Perm.refl _
    · exact ((insI_perm x r).cons y).trans (List.Perm.swap x y r)
theorem srtI_perm : ∀ l : List Int, (srtI l).Perm l
  | [] => List.Perm.refl _
  | x :: r => (insI_perm x _).trans ((srtI_perm r).cons x)
theorem insI_sorted (x : Int) : ∀ {l : List Int}, l.Pairwise (· ≤ ·) → (insI x l).Pairwise (· ≤ ·)
  | [], _ => List.pairwise_singleton _ _
  | y :: r, h => by
    simp only [insI]
    rw [List.pairwise_cons] at h
    split
    · rename_i q
      refine List.pairwise_cons.mpr ⟨fun z hz => ?_, List.pairwise_cons.mpr h⟩
      rcases List.mem_cons.mp hz with e | e
      · rw [e]; exact q
      · exact Int.le_trans q (h.1 z e)
    · rename_i q
      refine List.pairwise_cons.mpr ⟨fun z hz => ?_, insI_sorted x h.2⟩
      rcases List.mem_cons.mp ((insI_perm x r).mem_iff.mp hz) with e | e
      · rw [e]; omega
      · exact h.1 z e
theorem srtI_sorted : ∀ l : List Int, (srtI l).Pairwise (· ≤ ·)
  | [] => .nil
  | x :: r => insI_sorted x (srtI_sorted r)
theorem srtI_of {l m : List Int} (p : l.Perm m) (h : l.Pairwise (· ≤ ·)) : l = srtI m :=
  sorted_one (fun _ _ => Int.le_antisymm) (p.trans (srtI_perm m).symm) h (srtI_sorted m)
def LeP (p q : Int × Int) : Prop := leP p q = true
theorem leP_iff {p q : Int × Int} : LeP p q ↔ p.1 < q.1 ∨ (p.1 = q.1 ∧ p.2 ≤ q.2) := by
  unfold LeP leP
  simp only [Bool.or_eq_true, Bool.and_eq_true, decide_eq_true_eq]
theorem leP_anti (p q : Int × Int) (h1 : LeP p q) (h2 : LeP q p) : p = q := by
  rw [leP_iff] at h1 h2
  have a : p.1 = q.1 := by omega
  have b : p.2 = q.2 := by omega
  exact Prod.ext a b
theorem leP_trans {p q r : Int × Int} (h1 : LeP p q) (h2 : LeP q r) : LeP p r := by
  rw [leP_iff] at *
  omega
theorem leP_total {p q : Int × Int} (h : ¬ LeP p q) : LeP q p := by
  rw [leP_iff] at *
  omega
theorem insP_perm (x : Int × Int) : ∀ l : List (Int × Int), (insP x l).Perm (x :: l)
  | [] => List.Perm.refl _
  | y :: r => by
    simp only [insP]
    split
    · exact List.Perm.refl _
    · exact ((insP_perm x r).cons y).trans (List.Perm.swap x y r)
theorem srtP_perm : ∀ l : List (Int × Int), (srtP l).Perm l
  | [] => List.Perm.refl _
  | x :: r => (insP_perm x _).trans ((srtP_perm r).cons x)
theorem insP_sorted (x : Int × Int) : ∀ {l : List (Int × Int)}, l.Pairwise LeP → (insP x l).Pairwise LeP
  | [], _ => List.pairwise_singleton _ _
  | y :: r, h => by
    simp only [insP]
    rw [List.pairwise_cons] at h
    split
    · rename_i q
      refine List.pairwise_cons.mpr ⟨fun z hz => ?_, List.pairwise_cons.mpr h⟩
      rcases List.mem_cons.mp hz with e | e
      · rw [e]; exact q
      · exact leP_trans q (h.1 z e)
    · rename_i q
      refine List.pairwise_cons.mpr ⟨fun z hz => ?_, insP_sorted x h.2⟩
      rcases List.mem_cons.mp ((insP_perm x r).mem_iff.mp hz) with e | e
      · rw [e]; exact leP_total q
      · exact h.1 z e
theorem srtP_sorted : ∀ l : List (Int × Int), (srtP l).Pairwise LeP
  | [] => .nil
  | x :: r => insP_sorted x (srtP_sorted r)
theorem srtP_of {l m : List (Int × Int)} (p : l.Perm m) (h : l.Pairwise LeP) : l = srtP m :=
  sorted_one leP_anti (p.trans (srtP_perm m).symm) h (srtP_sorted m)
/-- v is the pair p -/
def IsPr (K : PySem.W.Frag) (H : Hp) (p : Int × Int) (v : V) : Prop := ∃ t, v = .ref t ∧ SqT K H t [.int p.1, .int p.2]
/-- sorted(xs), xs a list of pairs of ints, the pairs read -/
def rSortedPS (K : PySem.W.Frag) : List V → Hp → VK → Prop := fun vs H Q => ∃ (a : Addr) (xs : List V) (ps : List (Int × Int)), vs = [V.ref a] ∧ SqL K H a xs ∧ Paired (IsPr K H) ps xs ∧
  ∀ ys (qs : List (Int × Int)) p, Paired (IsPr K H) qs ys → qs.Perm ps → qs.Pairwise LeP → H p = none → Q (.ref p) (upd H p (.lst ys))
theorem paired_len {α β : Type} {F : α → β → Prop} : ∀ {l : List α} {m : List β}, Paired F l m → l.length = m.length
  | _, _, .nil => rfl
  | _, _, .cons _ r => by simp [paired_len r]
theorem paired_mem {α β : Type} {F : α → β → Prop} : ∀ {l : List α} {m : List β}, Paired F l m → ∀ y ∈ m, ∃ x, x ∈ l ∧ F x y
  | _, _, .nil, y, h => by cases h
  | _, _, .cons f r, y, h => by
    rcases List.mem_cons.mp h with e | e
    · subst e; exact ⟨_, List.mem_cons_self, f⟩
    · obtain ⟨x, a, b⟩ := paired_mem r y e
      exact ⟨x, List.mem_cons_of_mem _ a, b⟩
theorem paired_fun {α β : Type} {F : α → β → Prop} {k : β → α} : ∀ {l : List α} {m : List β}, Paired F l m → (∀ x y, F x y → k y = x) → m.map k = l
  | _, _, .nil, _ => rfl
  | _, _, .cons f r, h => by rw [List.map_cons, h _ _ f, paired_fun r h]
theorem paired_of {α β : Type} {F : α → β → Prop} {k : β → α} : ∀ {m : List β}, (∀ y ∈ m, F (k y) y) → Paired F (m.map k) m
  | [], _ => .nil
  | y :: m, h => .cons (h y List.mem_cons_self) (paired_of fun z hz => h z (List.mem_cons_of_mem _ hz))
section
variable {X : Cx}
theorem cr_sortedPS : CallR X (.builtin "sorted") (rSortedPS X.K) := by
  rintro pins s σ H vs us Q I r ⟨a, xs, ps, rfl, hs, hx, q⟩
  classical
  let k : V → Int × Int := fun x => if h : ∃ p, IsPr X.K H p x then h.choose else (0, 0)
  have hk : ∀ p x, IsPr X.K H p x → k x = p := by
    rintro p x h
    have hh : ∃ p, IsPr X.K H p x := ⟨p, h⟩
    have e : k x = hh.choose := dif_pos hh
    obtain ⟨t, rfl, h1⟩ := h
    obtain ⟨t', e2, h2⟩ := hh.choose_spec
    cases e2
    have := I.tuple_inj h2 h1
    rw [e]
    simp only [List.cons.injEq, V.int.injEq, and_true] at this
    exact Prod.ext this.1 this.2
  have hx2 : ∀ x ∈ xs, IsPr X.K H (k x) x := fun x m => by
    obtain ⟨p, _, f⟩ := paired_mem hx x m
    rw [hk p x f]; exact f
  obtain ⟨its, rv, hl, hz⟩ := I.list hs
  have er := Vals.ref1 r
  subst er
  have back := refs_back rv fun x m => (hx2 x m).imp fun t z => z.1
  refine SrtO.sorted_pairsO (k := fun u => k (backV u)) hl.isList (by rw [← rv.length]; exact hz) ?_ ?_
  · intro v hv
    obtain ⟨t, rfl⟩ := back.2 v hv
    obtain ⟨t', e, ht⟩ := hx2 (V.ref t) (by rw [back.1]; exact List.mem_map.mpr ⟨_, hv, rfl⟩)
    cases e
    obtain ⟨its2, r2, ⟨o, ho, hc, n, hd⟩, _⟩ := I.tuple ht
    obtain ⟨u1, u2, rfl, ⟨t1, rfl⟩, ⟨t2, rfl⟩⟩ := vals2 r2
    exact ⟨t, o, t1, t2, n, rfl, ho, hc, hd⟩
  · rintro h' d out h1 h2 kp hd ⟨n, hn⟩
    have h3 : ∀ u ∈ out, ∃ a, u = Value.ref a := fun u hu => back.2 u (h2.perm.mem_iff.mp hu)
    have hb : (out.map backV).Perm xs := by
      rw [back.1]
      exact h2.perm.map backV
    have len : (out.map backV).length ≤ sizeLine := by rw [hb.length_eq]; exact hz
    have hsrt : SrtO.Srtd (ltP k) (out.map backV) := SrtO.srtd_map h1
    refine ⟨.ref d, upd H d (.lst (out.map backV)), I.laid (t' := s.toks) kp hd (show ObjOk X.prog X.w _ h' d (.lst (out.map backV)) from ⟨len, out, n, vals_back h3, hn⟩), rfl, q _ ((out.map backV).map k) d ?_ ?_ ?_ (I.hok.fresh hd)⟩
    · exact paired_of fun y hy => hx2 y (hb.mem_iff.mp hy)
    · rw [← paired_fun hx hk]; exact hb.map k
    · refine List.pairwise_map.mpr (hsrt.imp fun {x y} h => ?_)
      rw [leP_iff]
      have := SrtO.lexB_no.mp h
      omega
end
section
variable {L : Lk} {B : AP} {H : Hp} {X : Cx}
theorem c_list : Call1S L (fun xs H Q => ∃ p ys, xs = [.ref p] ∧ (SqL L.K H p ys ∨ SqT L.K H p ys) ∧ ∀ l, H l = none → Q (.ref l) (upd H l (.lst ys))) .list := by
  intro B H x a z Q hx e k
  cases a <;> simp only [op1D, itemsOf, reduceCtorEq] at e
  · cases e
    obtain ⟨p, vs, ex, hp, r⟩ := root_tup hx
    exact ⟨p, vs, by rw [ex], .inr hp, fun l hl => k _ _ (post_lst hl r)⟩
  · cases e
    obtain ⟨p, vs, ex, hp, r⟩ := root_lst hx
    exact ⟨p, vs, by rw [ex], .inl (.of hp), fun l hl => k _ _ (post_lst hl r)⟩
theorem c_tuple : Call1S L (fun xs H Q => ∃ p ys, xs = [.ref p] ∧ ((SqL L.K H p ys ∧ ∀ l, H l = none → Q (.ref l) (upd H l (.tup ys))) ∨ (SqT L.K H p ys ∧ Q (.ref p) H))) .tuple := by
  intro B H x a z Q hx e k
  cases a <;> simp only [op1D, itemsOf, reduceCtorEq] at e
  · cases e
    obtain ⟨p, vs, ex, hp, r⟩ := root_tup hx
    exact ⟨p, vs, by rw [ex], .inr ⟨hp, k _ _ (post_same (by simp only [Rep]; exact ⟨p, vs, ex ▸ rfl, hp, r⟩))⟩⟩
  · cases e
    obtain ⟨p, vs, ex, hp, r⟩ := root_lst hx
    exact ⟨p, vs, by rw [ex], .inl ⟨.of hp, fun l hl => k _ _ (post_tup hl r)⟩⟩
theorem u_neg : Op1S L (rU fun i => .int (-i)) .neg := by
  intro B H x a z Q hx e k
  cases a <;> simp only [op1D, reduceCtorEq] at e
  cases e
  exact ⟨_, root_int hx, k _ _ (post_same rep_int)⟩
theorem u_not : Op1S L (fun x H Q => ∃ c, x = .bl c ∧ Q (.bl (!c)) H) .not_ := by
  intro B H x a z Q hx e k
  cases a <;> simp only [op1D, reduceCtorEq] at e
  cases e
  exact ⟨_, root_bl hx, k _ _ (post_same rep_bl)⟩
theorem pairs_paired : ∀ {ds : List D} {ps : List (Int × Int)} {vs : List V}, pairsOf ds = some ps → Reps L B H ds vs → Paired (IsPr L.K H) ps vs
  | [], ps, [], e, _ => by simp only [pairsOf, Option.some.injEq] at e; subst e; exact .nil
  | [], _, _ :: _, _, r => by simp only [Reps] at r
  | _ :: _, _, [], _, r => by simp only [Reps] at r
  | d :: ds, ps, v :: vs, e, r => by
    unfold pairsOf at e
    split at e
    · rename_i e1; cases e1
    · rename_i a b r' e1
      cases e1
      cases q : pairsOf ds with
      | none => rw [q] at e; simp at e
      | some ps' =>
        rw [q] at e
        simp only [Option.map_some, Option.some.injEq] at e
        subst e
        simp only [Reps, Rep] at r
        obtain ⟨⟨t, us, ev, hs, r1⟩, r2⟩ := r
        refine .cons ⟨t, ev, ?_⟩ (pairs_paired q r2)
        obtain ⟨u1, u2, rfl⟩ : ∃ u1 u2, us = [u1, u2] := by
          have := r1.len
          match us, this with
          | [u1, u2], _ => exact ⟨u1, u2, rfl⟩
        simp only [Reps, Rep] at r1
        obtain ⟨rfl, rfl, _⟩ := r1
        exact hs
    · cases e
theorem paired_reps : ∀ {ps : List (Int × Int)} {vs : List V}, Paired (IsPr L.K H) ps vs → Reps L B H (ps.map pD) vs
  | _, _, .nil => by simp only [List.map_nil, Reps]
  | p :: ps, v :: vs, .cons ⟨t, ev, hs⟩ r => by
    simp only [List.map_cons, Reps]
    refine ⟨?_, paired_reps r⟩
    unfold pD
    simp only [Rep]
    exact ⟨t, _, ev, hs, by simp only [Reps, Rep]; exact ⟨trivial, trivial, trivial⟩⟩
def rSortG (K : PySem.W.Frag) : List V → Hp → VK → Prop := fun vs H Q => rSortedI K vs H Q ∨ rSortedPS K vs H Q
theorem call_sortG : CallR X (.builtin "sorted") (rSortG X.K) := CallR.or cr_sortedI cr_sortedPS
theorem c_sorted : Call1S L (rSortG L.K) .sorted := by
  intro B H x a z Q hx e k
  cases a <;> simp only [op1D, reduceCtorEq] at e
  rename_i ds
  obtain ⟨p, vs, ex, hp, r⟩ := root_lst hx
  cases q : intsOf ds with
  | some ns =>
    rw [q] at e
    cases e
    refine .inl ⟨p, ns, by rw [ex], by rw [← r.ints q]; exact .of hp, fun ns' l pm so hl => ?_⟩
    rw [srtI_of pm so]
    exact k _ _ (post_lst hl (reps_ints _))
  | none =>
    rw [q] at e
    simp only at e
    cases q2 : pairsOf ds with
    | none => rw [q2] at e; cases e
    | some ps =>
      rw [q2] at e
      cases e
      refine .inr ⟨p, vs, ps, by rw [ex], .of hp, pairs_paired q2 r, fun ys qs l pr pm so hl => ?_⟩
      have := paired_reps (L := L) (B := B) pr
      rw [srtP_of pm so] at this
      exact k _ _ (post_lst hl this)
theorem minI_mem : ∀ {ns : List Int}, ns ≠ [] → minI ns ∈ ns ∧ ∀ y ∈ ns, minI ns ≤ y
  | [x], _ => ⟨by simp [minI], fun y hy => by simp at hy; simp [minI, hy]⟩
  | x :: y :: r, _ => by
    obtain ⟨h1, h2⟩ := minI_mem (ns := y :: r) (by simp)
    simp only [minI]
    constructor
    · by_cases c : x ≤ minI (y :: r)
      · rw [Int.min_eq_left c]; exact List.mem_cons_self
      · rw [Int.min_eq_right (by omega)]; exact List.mem_cons_of_mem _ h1
    · intro z hz
      rcases List.mem_cons.mp hz with e | e
      · rw [e]; exact Int.min_le_left _ _
      · exact Int.le_trans (Int.min_le_right _ _) (h2 z e)
theorem maxI_mem : ∀ {ns : List Int}, ns ≠ [] → maxI ns ∈ ns ∧ ∀ y ∈ ns, y ≤ maxI ns
  | [x], _ => ⟨by simp [maxI], fun y hy => by simp at hy; simp [maxI, hy]⟩
  | x :: y :: r, _ => by
    obtain ⟨h1, h2⟩ := maxI_mem (ns := y :: r) (by simp)
    simp only [maxI]
    constructor
    · by_cases c : maxI (y :: r) ≤ x
      · rw [Int.max_eq_left c]; exact List.mem_cons_self
      · rw [Int.max_eq_right (by omega)]; exact List.mem_cons_of_mem _ h1
    · intro z hz
      rcases List.mem_cons.mp hz with e | e
      · rw [e]; exact Int.le_max_left _ _
      · exact Int.le_trans (h2 z e) (Int.le_max_right _ _)
theorem ne_len {ns : List Int} (h : ns ≠ []) : 0 < ns.length := by cases ns <;> simp at h ⊢
theorem c_min : Call1S L (rMin L.K) .min_ := by
  intro B H x a z Q hx e k
  cases a <;> simp only [op1D, reduceCtorEq] at e
  rename_i ds
  obtain ⟨p, vs, ex, hp, r⟩ := root_lst hx
  cases q : intsOf ds with
  | none => rw [q] at e; cases e
  | some ns =>
    rw [q] at e
    simp only at e
    split at e
    · cases e
    · rename_i hn
      cases e
      obtain ⟨m1, m2⟩ := minI_mem hn
      refine ⟨p, ns, by rw [ex], by rw [← r.ints q]; exact .of hp, ne_len hn, fun m h1 h2 => ?_⟩
      have : m = minI ns := Int.le_antisymm (h2 _ m1) (m2 _ h1)
      rw [this]
      exact k _ _ (post_same rep_int)
theorem c_max : Call1S L (rMax L.K) .max_ := by
  intro B H x a z Q hx e k
  cases a <;> simp only [op1D, reduceCtorEq] at e
  rename_i ds
  obtain ⟨p, vs, ex, hp, r⟩ := root_lst hx
  cases q : intsOf ds with
  | none => rw [q] at e; cases e
  | some ns =>
    rw [q] at e
    simp only at e
    split at e
    · cases e
    · rename_i hn
      cases e
      obtain ⟨m1, m2⟩ := maxI_mem hn
      refine ⟨p, ns, by rw [ex], by rw [← r.ints q]; exact .of hp, ne_len hn, fun m h1 h2 => ?_⟩
      have : m = maxI ns := Int.le_antisymm (m2 _ h1) (h2 _ m1)
      rw [this]
      exact k _ _ (post_same rep_int)
theorem c_sum : Call1S L (rSum L.K) .sum_ := by
  intro B H x a z Q hx e k
  cases a <;> simp only [op1D, reduceCtorEq] at e
  rename_i ds
  obtain ⟨p, vs, ex, hp, r⟩ := root_lst hx
  cases q : intsOf ds with
  | none => rw [q] at e; cases e
  | some ns =>
    rw [q] at e
    cases e
    exact ⟨p, ns, by rw [ex], by rw [← r.ints q]; exact .of hp, k _ _ (post_same rep_int)⟩
theorem c_all : Call1S L (rAll L.K) .all_ := by
  intro B H x a z Q hx e k
  cases a <;> simp only [op1D, reduceCtorEq] at e
  rename_i ds
  obtain ⟨p, vs, ex, hp, r⟩ := root_lst hx
  cases q : blsOf ds with
  | none => rw [q] at e; cases e
  | some ns =>
    rw [q] at e
    cases e
    exact ⟨p, ns, by rw [ex], by rw [← r.bls q]; exact .of hp, k _ _ (post_same rep_bl)⟩
theorem c_any : Call1S L (rAny L.K) .any_ := by
  intro B H x a z Q hx e k
  cases a <;> simp only [op1D, reduceCtorEq] at e
  rename_i ds
  obtain ⟨p, vs, ex, hp, r⟩ := root_lst hx
  cases q : blsOf ds with
  | none => rw [q] at e; cases e
  | some ns =>
    rw [q] at e
    cases e
    exact ⟨p, ns, by rw [ex], by rw [← r.bls q]; exact .of hp, k _ _ (post_same rep_bl)⟩
theorem c_min2 : Call2S L (fun xs H Q => ∃ i j, xs = [.int i, .int j] ∧ Q (.int (if j < i then j else i)) H) .min2 := by
  intro B H x y a b z Q hx hy e k
  cases a <;> cases b <;> simp only [op2D, reduceCtorEq] at e
  cases e
  exact ⟨_, _, by rw [root_int hx, root_int hy], k _ _ (post_same rep_int)⟩
theorem c_max2 : Call2S L (fun xs H Q => ∃ i j, xs = [.int i, .int j] ∧ Q (.int (if j > i then j else i)) H) .max2 := by
  intro B H x y a b z Q hx hy e k
  cases a <;> cases b <;> simp only [op2D, reduceCtorEq] at e
  cases e
  exact ⟨_, _, by rw [root_int hx, root_int hy], k _ _ (post_same rep_int)⟩
theorem rgV_eq (a b : Int) : rgV a b = ((List.range (b - a).toNat).map fun (k : Nat) => (a + k : Int)).map V.int := by
  unfold rgV
  rw [List.map_map]; rfl
theorem c_rng1 {C : Cal} {sub : Nat → Nat → Bool} {W : WX} {a : IE} : ∀ σ H Q, TEv C sub L W (.op1 .rng1 a) σ H Q → tLstRg (tRg1 (TEv C sub L W a)) σ H Q := fun σ H Q ⟨fl, A, env, os, r0, h⟩ => by
  rw [evE] at h
  refine TEv.go shf_V r0 h fun x env1 v H1 os1 p1 r1 st1 w1 => ?_
  unfold ap1 at w1
  cases e1 : stl x env1 with
  | none => rw [e1] at w1; exact w1.elim
  | some da =>
    rw [e1] at w1
    obtain ⟨z, ez, k⟩ := w1.op r1
    have rx := p1.settle (Stp.refl _ _ _) r1 e1
    cases da <;> simp only [op1D, reduceCtorEq] at ez
    rename_i n
    split at ez
    case isFalse => cases ez
    rename_i hn
    simp only [Bool.and_eq_true, decide_eq_true_eq] at hn
    cases ez
    have big : (lim : Int) = 100000 := rfl
    refine ⟨n, root_int rx, ⟨by omega, by omega, by omega, by omega, by omega⟩, fun q hq => ?_⟩
    have := post_lst (B := Av (nA x.1 v A) os1) (L := L) hq (reps_ints ((List.range (n - 0).toNat).map fun (k : Nat) => (0 + k : Int)))
    rw [← rgV_eq] at this
    refine k _ _ ?_
    simpa [List.map_map, Function.comp_def] using this
theorem s_rng2 : Op2S L (fun x y H Q => ∃ i j, x = .int i ∧ y = .int j ∧ RgOk i j ∧ ∀ q, H q = none → Q (.ref q) (upd H q (.lst (rgV i j)))) .rng2 := by
  intro B H x y a b z Q hx hy e k
  cases a <;> cases b <;> simp only [op2D, reduceCtorEq] at e
  rename_i m n
  split at e
  case isFalse => cases e
  rename_i hn
  simp only [Bool.and_eq_true, decide_eq_true_eq] at hn
  cases e
  have big : (lim : Int) = 100000 := rfl
  refine ⟨m, n, root_int hx, root_int hy, ⟨by omega, by omega, by omega, by omega, by omega⟩, fun q hq => ?_⟩
  have := post_lst (B := B) (L := L) hq (reps_ints ((List.range (n - m).toNat).map fun (k : Nat) => (m + k : Int)))
  rw [← rgV_eq] at this
  refine k _ _ ?_
  simpa [List.map_map, Function.comp_def] using this
theorem c_rng2 {C : Cal} {sub : Nat → Nat → Bool} {W : WX} {a b : IE} : ∀ σ H Q, TEv C sub L W (.op2 .rng2 a b) σ H Q → tLstRg (tRg2 (TEv C sub L W a) (TEv C sub L W b)) σ H Q := fun σ H Q h =>
  tOp_of s_rng2 σ H Q h
end
end Sb

set_option Elab.async false
set_option linter.all false
set_option maxRecDepth 100000
/-! Slices, dict comprehensions, items, isinstance, repr. -/
namespace Sb
open PySem PySem.Spec PyProof.Rows L2
section
variable {L : Lk} {fl : List Bool} {A A1 : AP} {H H' : Hp} {σ σ' : L2.St} {env env' : Env} {os os' : OS} {W : WX} {C : Cal} {sub : Nat → Nat → Bool} {X : Cx}
/-! ### slices -/
def POi (L : Lk) (fl : List Bool) : Po (Option Int) (Option Int) := fun A H σ os k env' v H' os' => Sub os' os ∧ Pr (Own os) H H' ∧ EnvRep L fl A H' σ env' os' ∧ v = k
theorem shf_O : Shf (POi L fl) := by
  intro A H σ os A1 H1 os1 x env' v H' os' st ⟨h1, h2, h3, h4⟩
  exact ⟨h1.trans st.sub, st.pr.trans h2 fun z hz => .inl (st.sub.own z hz), h3.less st.inc, h4⟩
def TOv (C : Cal) (sub : Nat → Nat → Bool) (L : Lk) (W : WX) : IO → TO
  | .no => tNoPart
  | .e a => tPart (TEv C sub L W a)
theorem TOv.go {a : IO} {β γ : Type} {P2 : Po β γ} {f : Option Int → Env → R β} {Q : γ → Hp → Prop} {Q1 : Option Int → Hp → Prop} (hs : Shf P2) (r : EnvRep L fl A H σ env os)
    (h : Wp L fl W P2 A H σ os ((evO C sub a env).bnd f) Q)
    (k : ∀ x env1 H1 os1, EnvRep L fl A H1 σ env1 os1 → Stp A H os A H1 os1 → Wp L fl W P2 A H1 σ os1 (f x env1) Q → Q1 x H1) : TOv C sub L W a σ H Q1 := by
  cases a with
  | no =>
    rw [evO] at h
    exact k none env H os r (Stp.refl _ _ _) h
  | e a =>
    rw [evO] at h
    refine ⟨fl, A, env, os, r, ?_⟩
    cases q : evE C sub a env with
    | bad => rw [q] at h; exact h.elim
    | ex c e1 => rw [q] at h; exact h
    | ok x e1 =>
      rw [q] at h
      intro v H1 os1 p
      simp only [Sb.R.bnd] at h
      cases e2 : stl x e1 with
      | none => rw [e2] at h; exact h.elim
      | some d =>
        rw [e2] at h
        cases d <;> try exact h.elim
        rename_i i
        have st : Stp A H os A H1 os1 := ⟨p.1, p.2.1, fun _ z => z, fun _ z => .inl z⟩
        exact ⟨i, root_int (p.settle (Stp.refl _ _ _) p.2.2.1 e2), k (some i) e1 H1 os1 (p.2.2.1.less p.stp.inc) st (Wp.shift hs st h)⟩
def rSlG (K : PySem.W.Frag) : V → Option Int → Option Int → Hp → VK → Prop := fun x lo hi H Q => rSlL K x lo hi H Q ∨ rSlA K x lo hi H Q
theorem sl_any : SlR X (rSlG X.K) := SlR.or sl_list sl_tupA
theorem Reps.cut {B : AP} {ds : List D} {vs : List V} (r : Reps L B H ds vs) (lo hi : Option Int) : Reps L B H (cutD ds lo hi) (cutV vs lo hi) := by
  unfold cutD cutV
  rw [r.len]
  exact (r.drop _).take _
theorem cut_whole {ds : List D} {lo hi : Option Int} (h : HT.sIx ds.length 0 lo = 0 ∧ HT.sIx ds.length ds.length hi = ds.length) : cutD ds lo hi = ds := by
  unfold cutD
  rw [h.1, h.2]; simp
theorem t_sl {a : IE} {lo hi : IO} : ∀ σ H Q, TEv C sub L W (.sl a lo hi) σ H Q → tSl (rSlG L.K) (TEv C sub L W a) (TOv C sub L W lo) (TOv C sub L W hi) σ H Q := fun σ H Q ⟨fl, A, env, os, r, h⟩ => by
  rw [evE] at h
  refine TEv.go shf_V r h fun x env1 v H1 os1 p1 r1 st1 w1 => ?_
  refine TOv.go shf_V r1 w1 fun l env2 H2 os2 r2 st2 w2 => ?_
  refine TOv.go shf_V r2 w2 fun u env3 H3 os3 r3 st3 w3 => ?_
  cases e1 : stl x env3 with
  | none => rw [e1] at w3; exact w3.elim
  | some d =>
    rw [e1] at w3
    have rx := p1.settle (st2.trans st3) r3 e1
    obtain ⟨z, ez, k⟩ := Wp.op r3 (show Wp L fl W (PV L fl) _ H3 σ os3 (kFD (slD d l u) env3) Q from w3)
    cases d <;> simp only [slD, reduceCtorEq] at ez
    · cases ez
      rename_i ds
      obtain ⟨p, vs, ev, hp, rp⟩ := root_tup rx
      refine .inr ⟨p, vs, ev, hp, fun hw => ?_, fun hw q hq => k _ _ (post_tup hq (rp.cut l u))⟩
      rw [← rp.len] at hw
      refine k _ _ (post_same ?_)
      rw [cut_whole hw]
      simp only [Rep]
      exact ⟨p, vs, rfl, hp, rp⟩
    · cases ez
      obtain ⟨p, vs, ev, hp, rp⟩ := root_lst rx
      exact .inl ⟨p, vs, ev, .of hp, fun q hq => k _ _ (post_lst hq (rp.cut l u))⟩
    · cases ez
      rename_i ns
      simp only [Root, Rep] at rx
      obtain ⟨p, o, ev, hp⟩ := rx
      refine .inl ⟨p, ns.map V.int, ev, ?_, fun q hq => k _ _ (post_lst hq (Reps.cut (reps_ints ns) l u))⟩
      rcases hp with hp | hp
      · exact .inl (.inr ⟨o, hp⟩)
      · exact .inr hp
/-! ### dict comprehensions -/
theorem dc_it {J : It} {n : Nat} {G : Hp → Prop} {Y : Nat → Hp → V → Hp → Prop} (w : Walk J n G Y) {g : TG} {tt : TT} {tk tv : TE} {vs : List Nat} {σ : L2.St} {H0 : Hp} {D : Addr} {Qd : Hp → Prop} (Pv : Nat → Hp → Prop) (h0 : Pv 0 H0) (hG : ∀ i H, i ≤ n → Pv i H → G H)
    (hs : ∀ i x H H', i < n → Pv i H → Y i H x H' → g x (L2.wipe σ vs) H' fun σ2 H2 => L2.wipe σ2 vs = L2.wipe σ vs ∧ tt σ2 H2 fun b H3 =>
      if b = true then tk σ2 H3 fun y H4 => tv σ2 H4 fun z H5 => ∃ kvs k, y = kV k ∧ H5 D = some (.dK kvs) ∧ kvs.length < sizeLine ∧ Pv (i + 1) (upd H5 D (.dK (L2.putK kvs k z))) else Pv (i + 1) H3) (hd : ∀ H, Pv n H → Qd H) :
    ∃ W : Nat → Nat → Hp → Prop, (∃ m, W 0 m H0) ∧ ∀ i m H, W i m H →
      (J.stop i H ∧ Qd H) ∨ (J.go i H ∧ ∃ Nx : Hp → Prop, (∀ H', Nx H' → ∃ m', m' < m ∧ W (i + 1) m' H') ∧ ∀ x H', J.yld i H x H' → g x (L2.wipe σ vs) H' fun σ2 H2 => L2.wipe σ2 vs = L2.wipe σ vs ∧ tt σ2 H2 fun b H3 =>
        if b = true then tk σ2 H3 fun y H4 => tv σ2 H4 fun z H5 => ∃ kvs k, y = kV k ∧ H5 D = some (.dK kvs) ∧ kvs.length < sizeLine ∧ Nx (upd H5 D (.dK (L2.putK kvs k z))) else Nx H3) := by
  refine ⟨fun i m H => i + m = n ∧ Pv i H, ⟨n, by omega, h0⟩, ?_⟩
  rintro i m H ⟨e, p⟩
  by_cases hm : m = 0
  · have : i = n := by omega
    subst this
    exact .inl ⟨w.stops H (hG i H (Nat.le_refl _) p), hd H p⟩
  · have hi : i < n := by omega
    have g := hG i H (by omega) p
    exact .inr ⟨w.goes i H hi g, Pv (i + 1), fun H' q => ⟨m - 1, by omega, by omega, q⟩, fun x H' y => hs i x H H' hi p (w.yields i H x H' hi g y)⟩
theorem loopD_go {f : D → Env → R (Int × D)} {x : D} {xs : List D} {e : Env} {a : List D × List D} {β γ : Type} {P2 : Po β γ} {k : List D × List D → Env → R β} {Q : γ → Hp → Prop} (h : Wp L fl W P2 A H σ os ((loopD f (x :: xs) e a).calm.bnd k) Q) :
    ∃ p e1, f x e = .ok p e1 ∧ Wp L fl W P2 A H σ os ((loopD f xs e1 (putK a.1 a.2 p.1 p.2)).calm.bnd k) Q := by
  rw [loopD] at h
  cases q : f x e with
  | bad => rw [q] at h; exact h.elim
  | ex c e1 => rw [q] at h; exact h.elim
  | ok o e1 => rw [q] at h; exact ⟨o, e1, rfl, h⟩
theorem putK_len (ks us : List D) (i : Int) (d : D) : (putK ks us i d).1.length ≤ ks.length + 1 := by
  unfold putK
  split
  · exact Nat.le_succ _
  · simp
theorem t_dc {it : Itr} {t : Tg} {own : List Nat} {k v : IE} (ht : ∀ i ∈ tgIx t, i ∈ own) : ∀ σ H Q, TEv C sub L W (.dcomp it t own k v) σ H Q →
    tDc (TIv C sub L W it) (gTg L.K t) (TTs C sub L WF []) (TEv C sub L WF k) (TEv C sub L WF v) own σ H Q := fun σ H Q ⟨fl, A, env, os, r, h⟩ => by
  rw [evE] at h
  refine ⟨fl, A, env, os, r, h.bnd fun ds env1 J H1 os1 ⟨A1, st1, r1, G, Y, wk, jw⟩ w => ?_⟩
  split at w
  case isFalse => exact w.elim
  rename_i hlim
  intro D hD
  obtain ⟨Ab, hAb⟩ : ∃ Ab : AP, Ab = fun a => a = D ∨ A1 a := ⟨_, rfl⟩
  have hA1 : ∀ a, A1 a → Ab a := fun a z => by rw [hAb]; exact .inr z
  have hAD : Ab D := by rw [hAb]; exact .inl rfl
  have hAe : ∀ a, Ab a → a = D ∨ A1 a := fun a z => by rw [hAb] at z; exact z
  have stD : Stp A1 H1 os1 Ab (upd H1 D (.dK [])) os1 := ⟨Sub.refl _, (Ex.new hD).pr, hA1, fun a z => (hAe a z).elim (fun z => by rw [z]; exact .inr hD) .inl⟩
  refine dc_it wk (fun i Hh => ∃ env_i os_i acc kvs, EnvRep L fl Ab Hh σ env_i os_i ∧ Stp A1 H1 os1 Ab Hh os_i ∧ Hh D = some (.dK kvs) ∧ keysD acc.1 kvs ∧ (kvs.map (·.1)).Nodup ∧ Reps L (Av Ab os_i) Hh acc.2 (kvs.map (·.2)) ∧ acc.1.length ≤ i ∧
    Wp L fl W (PV L fl) A H σ os ((loopD _ (ds.drop i) env_i acc).calm.bnd fun r e2 => .ok (.fr, .dct r.1 r.2) e2) Q) ⟨env1, os1, ([], []), [], ?_, stD, upd_same, by simp only [keysD], by simp, by simp only [List.map_nil, Reps], Nat.le_refl _, w⟩ ?_ ?_ ?_
  · exact (r1.avoid (A' := Ab) (fun a z => (hAe a z).elim (fun z => by rw [z]; exact .inr hD) .inl) (fun a z => (hAe a z).elim (fun z => by rw [z, upd_same]; simp) fun z q => r1.dm a z ((Ex.new hD).free q)) (Ex.new hD))
  · rintro i Hh hi ⟨env_i, os_i, acc, vs, rI, stI, _⟩
    exact (jw Ab Hh os_i stI.mv).1
  · rintro i x Hh H' hi ⟨env_i, os_i, acc, kvs, rI, stI, hDI, hk, nd, rpI, hl, wI⟩ hy
    obtain ⟨d, hd, ex, rd⟩ := (jw Ab Hh os_i stI.mv).2 i x H' hi hy
    rw [List.drop_eq_getElem_cons hi, show ds[i] = d from by rw [List.getElem?_eq_getElem hi] at hd; exact Option.some.inj hd] at wI
    obtain ⟨o, e5, hf1, wN⟩ := loopD_go wI
    obtain ⟨s0, s4, hw0, hf2, e5q⟩ := inB_ok hf1
    subst e5q
    obtain ⟨s1, ha, hf3⟩ := optEnv_ok hf2
    obtain ⟨y1, s2, hk1, hf4⟩ := R.bnd_ok hf3
    obtain ⟨y2, s3, hv1, hf5⟩ := R.bnd_ok hf4
    have rE : EnvRep L fl Ab H' σ env_i os_i := rI.ext ex
    have stE : Stp A1 H1 os1 Ab H' os_i := stI.trans ⟨Sub.refl _, ex.pr, fun _ z => z, fun _ z => .inl z⟩
    have r0 := rE.wipe hw0
    refine asg_g r0 rd ha fun σ2 os2 S => ⟨?_, ?_⟩
    · rw [wipe_eq (σ := L2.wipe σ own) S.len fun j hj => S.out j fun z => hj (ht j z)]
      exact wipe_eq (wipe_length _ _) fun j hj => by rw [wipe_get, if_neg fun z => hj z.1]
    have out : ∀ j, j ∉ own → σ2[j]? = σ[j]? := fun j hj => by rw [S.out j fun z => hj (ht j z), wipe_get, if_neg fun z => hj z.1]
    refine ⟨_, Ab, s1, os2, S.rep, ?_⟩
    rw [evTs]
    intro k' H3 os3 pb
    obtain rfl : k' = true := pb.2.2.2
    rw [if_pos rfl]
    have st3 : Stp Ab H' os_i Ab H3 os3 := (Stp.trans ⟨S.sub, Pr.refl _, fun _ z => z, fun _ z => .inl z⟩ pb.stp)
    cases h1 : emb y1 with
    | none => simp only [h1] at hf5; cases hf5
    | some d1 => cases h2 : emb y2 with
      | none => simp only [h1, h2] at hf5; cases d1 <;> cases hf5
      | some d2 =>
        simp only [h1, h2] at hf5
        cases d1 <;> try (cases hf5; done)
        rename_i ki
        cases hf5
        refine ⟨_, Ab, s1, os3, pb.2.2.1, ?_⟩
        rw [hk1]
        intro v4 H4 os4 pv
        have pv' := pv.emb pb.2.2.1.dm h1
        refine ⟨_, Ab, s2, os4, pv'.env, ?_⟩
        rw [hv1]
        intro v5 H5 os5 pw
        have pw' := pw.emb pv'.env.dm h2
        have st5 : Stp Ab H' os_i Ab H5 os5 := (st3.trans pv'.stp).trans pw'.stp
        have hD5 : H5 D = some (.dK kvs) := st5.pr.keep D _ (ex D _ hDI) (fun ps => by intro z; cases z) (rE.dj D hAD)
        have cD : Chg H5 D := chg_dK hD5
        have rb := rE.back hw0 st5 pw'.env out
        have rp5 := st5.reps (stp_reps ex rpI)
        obtain ⟨k1, k2, k3⟩ := putK_val (i := ki) hk nd rp5 pw'.2.2.2
        have ek : v4 = V.int ki := by have := pv'.2.2.2; simpa only [Rep] using this
        refine ⟨kvs, Sum.inl ki, ek, hD5, ?_, _, os5, putK acc.1 acc.2 ki d2, L2.putK kvs (Sum.inl ki) v5, rb.over hAD cD, (stE.trans st5).over hD cD, upd_same, k1, k2, k3.upd (.inl hAD) cD, ?_, wN⟩
        · rw [← keysD_len hk]
          exact Nat.lt_of_lt_of_le (Nat.lt_of_le_of_lt hl hi) (lim_line hlim)
        · have := putK_len acc.1 acc.2 ki d2
          omega
  · rintro Hh ⟨env_i, os_i, acc, kvs, rI, stI, hDI, hk, nd, rpI, hl, wI⟩
    rw [List.drop_length] at wI
    have wI' : Wp L fl W (PV L fl) A H σ os (R.ok (Knd.fr, Sb.D.dct acc.1 acc.2) env_i) Q := wI
    have sA : ∀ a, nA .fr (.ref D) A a → Ab a := fun a z => z.elim (fun z => by cases z; exact hAD) fun z => hA1 a (st1.inc a z)
    refine wI' (.ref D) Hh os_i ⟨stI.sub.trans st1.sub, st1.pr.trans stI.pr fun z hz => .inl (st1.sub.own z hz), rI.less sA, D, rfl, st1.pr.dom D hD, kvs, hDI, hk, nd, ?_⟩
    exact rpI.less fun a z => z.elim (fun z => .inl (sA a z)) .inr
/-! ### d.items(), d new -/
theorem pe_frz {e : Expr} {td : TE} (h : PE X e td) : PE X e (fun σ H Q => td σ H fun x H1 => ∃ d u, x = .ref d ∧ H1 d = some u ∧ Mut (some u) ∧ ∀ od, Q x (upd H1 d (.frz od u))) := by
  refine ⟨fun pins s σ H Q I q => thn (h.run pins s σ H _ I q) ?_⟩
  rintro v s1 ⟨x, H1, I1, r1, d, u, ex, hd, mu, k⟩
  obtain ⟨od, I2⟩ := I1.lock hd mu
  exact ⟨x, _, I2, r1, k od⟩
theorem pi_itF {elts : List Expr} {kk : Nat} {tpos apos cpos : Pos} {e : Expr} {td : TE} (he : PE X e td) (hbase : attributeBase e "items" X.env (eval e X.env) = eval e X.env) (hline : (apos.endLine == cpos.line) = true) :
    PI X (.Tuple elts kk tpos) (.Call (.Attribute e "items" apos) [] [] cpos) (iItems (fun σ H Q => td σ H fun x H1 => ∃ d u, x = .ref d ∧ H1 d = some u ∧ Mut (some u) ∧ ∀ od, Q x (upd H1 d (.frz od u)))) := pi_items (pe_frz he) hbase hline
theorem keys_at : ∀ {ks : List D} {kvs : List (Key × V)} {i : Nat} {kv : Key × V}, keysD ks kvs → kvs[i]? = some kv → ∃ k, ks[i]? = some (.int k) ∧ kv.1 = Sum.inl k
  | .int k :: ks, (k', v) :: kvs, 0, kv, h, e => by
    simp only [keysD] at h
    simp at e; subst e
    exact ⟨k, rfl, h.1⟩
  | .int k :: ks, (k', v) :: kvs, i + 1, kv, h, e => by
    simp only [keysD] at h
    obtain ⟨k2, a, b⟩ := keys_at h.2 (i := i) (by simpa using e)
    exact ⟨k2, by simpa using a, b⟩
  | [], [], _, _, _, e => by simp at e
  | _, [], _, _, _, e => by simp at e
  | [], _ :: _, _, _, hk, _ => by simp [keysD] at hk
  | .non :: _, _ :: _, _, _, hk, _ => by simp [keysD] at hk
  | .bl _ :: _, _ :: _, _, _, hk, _ => by simp [keysD] at hk
  | .str _ :: _, _ :: _, _, _, hk, _ => by simp [keysD] at hk
  | .tup _ :: _, _ :: _, _, _, hk, _ => by simp [keysD] at hk
  | .lst _ :: _, _ :: _, _, _, hk, _ => by simp [keysD] at hk
  | .dct _ _ :: _, _ :: _, _, _, hk, _ => by simp [keysD] at hk
  | .obj _ _ :: _, _ :: _, _, _, hk, _ => by simp [keysD] at hk
  | .scr _ :: _, _ :: _, _, _, hk, _ => by simp [keysD] at hk
theorem jw_items {H1 : Hp} {os1 : OS} {ks us : List D} {p : Addr} {o : Obj} {kvs : List (Key × V)} (hs : H1 p = some (.frz o (.dK kvs))) (hk : keysD ks kvs) (r : Reps L (Av A1 os1) H1 us (kvs.map (·.2))) :
    JW L A1 H1 os1 (Iti p o kvs) (zipD ks us) := by
  have hl : (zipD ks us).length = kvs.length := by
    have h1 := keysD_len hk
    have h2 := r.len
    rw [List.length_map] at h2
    rw [zipD_len, h1, h2, Nat.min_self]
  refine ⟨_, _, hl ▸ walk_items, fun A2 H2 os2 st => ⟨st.pr.frzs p o _ hs, fun i x H' hi ⟨T, x1, y1, e1, hT, e2, e3, e4⟩ => ?_⟩⟩
  subst e1; subst e2
  rw [hl] at hi
  have hkv : kvs[i]? = some kvs[i] := List.getElem?_eq_getElem hi
  simp only [hkv, Option.map_some, Option.some.injEq] at e3 e4
  subst e3; subst e4
  obtain ⟨k, a1, a2⟩ := keys_at hk hkv
  obtain ⟨d, b1, b2⟩ := reps_at (i := i) (x := kvs[i].2) r (by rw [List.getElem?_map, hkv]; rfl)
  refine ⟨_, zipD_at a1 b1, Ex.new hT, rep_pair hT ?_ (st.rep b2)⟩
  rw [a2]
  exact rep_int
theorem TIv.items {a : IE} : ∀ σ H Rr, TIv C sub L W (.items a) σ H Rr → iItems (fun σ H Q => TEv C sub L W a σ H fun x H1 => ∃ d u, x = .ref d ∧ H1 d = some u ∧ Mut (some u) ∧ ∀ od, Q x (upd H1 d (.frz od u))) σ H Rr := fun σ H Rr ⟨fl, A, env, os, r, h⟩ => by
  rw [evI] at h
  refine ⟨fl, A, env, os, r, h.bnd fun x env1 v H1 os1 p w => ?_⟩
  split at w
  case h_2 => exact w.elim
  rename_i ks us
  have st := p.stp
  have r1 := p.env
  obtain ⟨_, _, _, q, ev, hq, kvs, hd, hk, nd, rp⟩ := p
  subst ev
  refine ⟨q, _, rfl, hd, trivial, fun od => ⟨q, od, kvs, rfl, upd_same, ?_⟩⟩
  have cq : Chg H1 q := chg_dK hd
  have hA : (nA .fr (.ref q) A) q := .inl rfl
  refine w _ _ os1 ⟨nA .fr (.ref q) A, st.over hq cq, r1.over hA cq, jw_items upd_same hk (rp.upd (.inl hA) cq)⟩
end
end Sb

set_option Elab.async false
set_option linter.all false
set_option maxRecDepth 100000
set_option maxHeartbeats 1900000
/-! A try with clauses that each name the error. -/
namespace Sb
open PySem PySem.Spec
open PyProof.Rows L2 LamX
/-- a clause's wish about the ends: its name is gone behind it -/
def endsA (i : Nat) (D : Ends) : Ends := { nx := fun σ H => D.nx (σ.set i none) H, rt := D.rt, bk := fun σ H => D.bk (σ.set i none) H, ct := fun σ H => D.ct (σ.set i none) H }
abbrev Cls := List (Value × (Addr → Value → Option Addr → TS))
def wCls (K : PySem.W.Frag) (i : Nat) (Wo : WX) (D : Ends) : Cls → WX
  | [] => Wo
  | z :: zs => fun cls d σ H => ∃ b, PySem.W.exmOne K cls z.1 = some b ∧
      (if b = true then ∀ a, H a = none → z.2 a cls d (endsA i D) (σ.set i (some (.ref a))) H else wCls K i Wo D zs cls d σ H)
inductive HasCls (X : Cx) (n : Str) : List ExceptHandler → Cls → Prop
  | none : HasCls X n [] []
  | more {x : Str} {c : Value} {ts : Addr → Value → Option Addr → TS} {b : Stmt} {bs : List Stmt} {p q : Pos} {hs : List ExceptHandler} {zs : Cls} (nm : Names X x c)
      (run : ∀ (a : Addr) (oe : Obj) (cls : Value) (d : Option Addr) (pn : List (Addr × Obj)), Zc cls d oe → PSs (X.suite a ((a, oe) :: pn)) (b :: bs) (ts a cls d)) (rest : HasCls X n hs zs) :
      HasCls X n (.ExceptHandler (some (.Name x p)) (some n) (b :: bs) q :: hs) ((c, ts) :: zs)
section
variable {X : Cx} {n : Str} {i : Nat} {pins : List (Addr × Obj)} {σ : L2.St} {H : Hp}
/-- the error a has come down in the frame of X; sI: the state without it -/
structure Down (X : Cx) (pins : List (Addr × Obj)) (σ : L2.St) (H : Hp) (B : Heap) (a : Addr) (cls : Value) (d : Option Addr) (sI t : Shared) : Prop where
  clean : Inv X pins σ H sI
  old : ∀ b o, sI.heap.get? b = some o → b ∉ frs X.stack → B.get? b = some o
  fly : HandSPX.FlyingZ B (X.env :: X.outer) a (Zc cls d) t.heap
  same : sI.heap.UpToSlots t.heap
  new : H a = none
  os : t.os = sI.os
  bare : AllBare t.gens
variable {B : Heap} {a : Addr} {cls : Value} {d : Option Addr} {sI t : Shared}
theorem Down.inv (F : Down X pins σ H B a cls d sI t) : Inv X pins σ H t := F.clean.landed F.old F.fly.1 F.same F.os F.bare
theorem Down.next {g : Heap} (F : Down X pins σ H B a cls d sI t) (f : HandSPX.FlyingZ B (X.env :: X.outer) a (Zc cls d) g) (u : t.heap.UpToSlots g) : Down X pins σ H B a cls d sI { t with heap := g } :=
  ⟨F.clean, F.old, f, F.same.trans u, F.new, F.os, F.bare⟩
theorem Down.in (F : Down X pins σ H B a cls d sI t) (hf : X.env.frame = some X.env.locals) :
    ∃ oe vs, t.heap.get? a = some oe ∧ Zc cls d oe ∧ oe.data = .fields vs ∧ Inv (X.suite a ((a, oe) :: (X.pn ++ pins))) [] σ H t := by
  obtain ⟨oe, vs, at_, zc, dat⟩ := F.fly.there
  have apart : a ∉ frs (X.env :: X.outer) := by
    intro hm
    obtain ⟨_, o, eo, no⟩ := F.fly.2.2.1.mem hm
    cases at_.symm.trans eo
    exact no _ dat
  refine ⟨oe, vs, at_, zc, dat, F.inv.suite at_ dat F.new (fun z => ?_) fun z => ?_⟩
  · exact apart (List.mem_filterMap.mpr ⟨_, List.mem_cons_self, by rw [hf, z]⟩)
  · obtain ⟨e, he, q⟩ := List.mem_filterMap.mp z
    exact apart (List.mem_filterMap.mpr ⟨e, List.mem_cons_of_mem _ he, q⟩)
/-- no clause fits: it flies on -/
theorem Down.on {Wo : WX} {D : Ends} (F : Down X pins σ H B a cls d sI t) (hs : X.stack = X.env :: X.outer) (hf : X.env.frame = some X.env.locals) (tk : Takes X Wo) (w : Wo cls d σ H) :
    wpAny (model X.prog X.w) X.A (handleBy (.ref a) X.env []) (SP X pins D) X.xe t := by
  have ⟨_, _, _, oe, vs, T, oT, ts, at_, _, dat, v1, _⟩ := F.fly
  refine wpAny_handleBy_nil ?_
  unfold PySem.passOn
  refine wpAny_bind (wpAny_field at_ dat v1 ?_)
  rw [if_neg (by simp)]
  have up : wpAny (model X.prog X.w) X.A (setFlight (.ref a) X.env.frame) (fun _ s4 => wpAny (model X.prog X.w) X.A (throw (.ref a) : Sem Flow) (SP X pins D) X.xe s4) X.xe t := by
    rw [hf]
    refine HandSPX.setFlight_upZ F.fly fun g held u => wpAny_throw (tk _ _ ⟨a, B, sI, pins, σ, H, cls, d, rfl, F.clean, F.old, F.same.trans u, .inr (.inr ?_), F.new, F.os, F.bare, w⟩)
    rw [hs]; exact held
  first
    | exact wpAny_bind (wpAny_pure (wpAny_bind up))
    | exact wpAny_bind up
theorem clauses {Wo : WX} {D : Ends} (hs : X.stack = X.env :: X.outer) (hf : X.env.frame = some X.env.locals) (nd : X.N.Nodup) (hi : X.N[i]? = some n) (ln : X.env.kindOf n = some .local) (tk : Takes X Wo) {hds : List ExceptHandler} {zs : Cls} (hc : HasCls X n hds zs)
    (F : Down X pins σ H B a cls d sI t) (w : wCls X.K i Wo D zs cls d σ H) : wpAny (model X.prog X.w) X.A (handleBy (.ref a) X.env hds) (SP X pins D) X.xe t := by
  induction hc with
  | none => exact F.on hs hf tk w
  | @more x c ts b bs p q hs' zs' nm run rest ih =>
    obtain ⟨yes, cmp, k⟩ := w
    obtain ⟨oe, vs, at_, zc, dat, S⟩ := F.in hf
    have looks : PySem.W.Looks (model X.prog X.w) t.heap (typeOf (.ref a)) cls := fun _ _ _ _ keep z => wpAny_typeOf_ref (keep _ _ at_) (by rw [zc.1]; exact z)
    have fits := PySem.W.exm_one (M := model X.prog X.w) F.inv.kIn looks cmp
    have name : ∀ {Q : Value → Shared → Prop} {E : Value → Shared → Prop}, Q c t → wpAny (model X.prog X.w) (X.A.mark (some (.ref a))) (eval (.Name x p) X.env) Q E t := by
      intro Q E z
      rcases nm with ⟨g, db, m | ⟨m, v, nn⟩⟩
      · exact ld_glob (X := X.suite a ((a, oe) :: (X.pn ++ pins))) S g m z db
      · exact ld_blt (X := X.suite a ((a, oe) :: (X.pn ++ pins))) S g m v z nn db
    refine wpAny_handleBy_cons (codeAny_handlers_test (name (fits.here ?_))) (by intro z; cases z)
    cases yes with
    | false => exact ih (by simpa using k)
    | true =>
      rw [if_pos rfl] at k
      refine codeAny_handlers_suite_as (HandSPX.lands_againZ F.fly fun g fl u => ?_)
      have F2 := F.next fl u
      obtain ⟨oe2, _, _, zc2, _, S2⟩ := F2.in hf
      refine store_ok (X := X.suite a ((a, oe2) :: (X.pn ++ pins))) (v := .ref a) S2 nd hi (.inl ln) rfl (fun s5 S5 => ?_) (.inr ln)
      refine wpAny_mono ((run a oe2 cls d (X.pn ++ pins) zc2).run [] s5 _ H _ S5 (k a F.new)) (fun f s6 z => ?_) (fun _ _ z => z.elim)
      have bye : ∀ {σ6 : L2.St} {H6 : Hp} {R : Shared → Prop}, Inv (X.suite a ((a, oe2) :: (X.pn ++ pins))) [] σ6 H6 s6 → (∀ s7, Inv X pins (σ6.set i none) H6 s7 → R s7) → wpAny (model X.prog X.w) X.A (do bindName X.env n .none; unbindBehindTheSuite X.env n q) (fun _ s7 => R s7) X.xe s6 :=
        fun S6 r => gone_ok (S6.unsuite F.inv.ok) nd hi ln r
      cases f with
      | ret u => obtain ⟨v, σ6, H6, S6, r, e⟩ := z; exact bye S6 fun _ J => ⟨v, _, _, J, r, e⟩
      | next => obtain ⟨σ6, H6, S6, e⟩ := z; exact bye S6 fun _ J => ⟨_, _, J, e⟩
      | brk => obtain ⟨σ6, H6, S6, e⟩ := z; exact bye S6 fun _ J => ⟨_, _, J, e⟩
      | cont => obtain ⟨σ6, H6, S6, e⟩ := z; exact bye S6 fun _ J => ⟨_, _, J, e⟩
theorem ps_try_named {body : List Stmt} {h : ExceptHandler} {hds : List ExceptHandler} {zs : Cls} {pos : Pos} {tb : WX → TS} {Wo : WX} (hs : X.stack = X.env :: X.outer) (hf : X.env.frame = some X.env.locals) (nd : X.N.Nodup) (hi : X.N[i]? = some n) (ln : X.env.kindOf n = some .local) (tk : Takes X Wo)
    (hb : ∀ (W : WX) (pn : List (Addr × Obj)) (xe : Value → Shared → Prop), Takes (X.tr pn xe) W → PSs (X.tr pn xe) body (tb W)) (hc : HasCls X n (h :: hds) zs) : PS X (.Try body (h :: hds) [] [] pos) (fun D σ H => tb (wCls X.K i Wo D zs) D σ H) := by
  constructor
  intro pins s σ H D I ask
  have ok := I.ok
  refine wpAny_Try_except ?_
  let xe : Value → Shared → Prop := fun e s₁ => wpAny (model X.prog X.w) X.A (noteFrame e X.env) (fun _ s₂ => wpAny (model X.prog X.w) X.A (setFlight e none) (fun _ s₃ => wpAny (model X.prog X.w) X.A (handleBy e X.env (h :: hds)) (SP X pins D) X.xe s₃) X.xe s₂) X.xe s₁
  have takes : Takes (X.tr (X.pn ++ pins) xe) (wCls X.K i Wo D zs) := by
    rintro u s' ⟨a, B, sI, pins', σ', H', cls, d, rfl, J, old, up, sky, na, os, ag, w⟩
    have sky2 : Sky B (X.env :: X.outer) a (Zc cls d) X.env.locals s'.heap := by rw [← hs]; exact sky
    refine Sky.land Zc.steady (by rw [ok.frames, hs]) hf sky2 fun g fl u => ?_
    exact clauses hs hf nd hi ln tk hc (t := { s' with heap := g }) ⟨J.ofTry ok, old, fl, up.trans u, na, os, ag⟩ w
  refine wpAny_mono ((hb _ (X.pn ++ pins) xe takes).run [] s σ H D (I.toTry _) ask) (fun f s1 z => ?_) (fun _ _ z => z)
  cases f with
  | next => obtain ⟨σ1, H1, J, q⟩ := z; exact wpAny_execs_nil ⟨σ1, H1, J.ofTry ok, q⟩
  | brk => obtain ⟨σ1, H1, J, q⟩ := z; exact ⟨σ1, H1, J.ofTry ok, q⟩
  | cont => obtain ⟨σ1, H1, J, q⟩ := z; exact ⟨σ1, H1, J.ofTry ok, q⟩
  | ret u => obtain ⟨v, σ1, H1, J, r, q⟩ := z; exact ⟨v, σ1, H1, J.ofTry ok, r, q⟩
end
end Sb

set_option Elab.async false
set_option linter.all false
set_option maxRecDepth 100000
set_option maxHeartbeats 1900000
/-! A def that is handed a lambda. -/
namespace Sb
open PySem PySem.Spec
open PyProof.Rows L2 LamX
section
variable {T : List (Addr × Str)} {H : Hp} {P c' : Addr} {ps : Array Value} {pos : Pos} {q : Str}
/-- the heap when the table at P has got one entry more -/
abbrev tbUp (H : Hp) (P c' : Addr) (ps : Array Value) (pos : Pos) (q : Str) : Hp :=
  upd (upd H P (.tbl (ps ++ #[rawInt pos.line, rawInt pos.col, .ref c']))) c' (CodeO c' q)
theorem tbUp_off {b : Addr} (h1 : b ≠ c') (h2 : b ≠ P) : tbUp H P c' ps pos q b = H b := (upd_ne h1).trans (upd_ne h2)
theorem tbUp_more (hP : H P = some (.tbl ps)) (hc : H c' = none) : ExtN H (tbUp H P c' ps pos q) := by
  intro b o hb no
  have d1 : b ≠ c' := by rintro rfl; rw [hb] at hc; cases hc
  have d2 : b ≠ P := by
    rintro rfl
    rw [hb] at hP
    exact no ps (Option.some.inj hP)
  rw [tbUp_off d1 d2, hb]
theorem tbUp_left {b : Addr} (hz : tbUp H P c' ps pos q b = none) : H b = none := by
  by_cases d1 : b = c'
  · subst d1; unfold tbUp at hz; rw [upd_same] at hz; cases hz
  by_cases d2 : b = P
  · unfold tbUp at hz
    rw [upd_ne d1] at hz
    subst d2
    rw [upd_same] at hz; cases hz
  · rwa [tbUp_off d1 d2] at hz
theorem tbUp_tabs (hP : H P = some (.tbl ps)) (hc : H c' = none) (hT : Tabs T H) (one : ∀ z ∈ T, z.1 = P → z.2 = q) : Tabs T (tbUp H P c' ps pos q) := by
  rintro ⟨a, n⟩ mem
  have up := tbUp_more (pos := pos) (q := q) hP hc
  obtain ⟨ts, t1, t2, t3⟩ := hT _ mem
  have keepC : ∀ {z : Addr} {m : Str}, H z = some (CodeO z m) → tbUp H P c' ps pos q z = some (CodeO z m) := fun hz => up _ _ hz codeO_ne
  have nc : a ≠ c' := by
    rintro rfl
    exact absurd (t1.symm.trans hc) (by simp)
  by_cases ea : a = P
  · have en : n = q := one _ mem ea
    subst ea en
    have same : ts = ps := by
      have := t1.symm.trans hP
      injection this with this
      injection this
    subst same
    refine ⟨_, (upd_ne nc).trans upd_same, ?_, ?_⟩
    · rw [Array.toList_append]
      exact PySem.TriplesOk_snoc _ _ _ _ t2
    · intro pz cv hcv
      rw [Array.toList_append] at hcv
      cases among_app _ t2 hcv with
      | inl old => obtain ⟨z, z1, z2⟩ := t3 pz cv old; exact ⟨z, z1, keepC z2⟩
      | inr new => exact ⟨c', new, upd_same⟩
  · refine ⟨ts, (tbUp_off nc ea).trans t1, t2, fun pz cv hcv => ?_⟩
    obtain ⟨z, z1, z2⟩ := t3 pz cv hcv
    exact ⟨z, z1, keepC z2⟩
end
section
variable {X : Cx} {pins : List (Addr × Obj)}
variable {σ : L2.St} {H : Hp} {s : Shared}
/-- what is said of a lambda that has been made -/
structure LamAt (X : Cx) (pins : List (Addr × Obj)) (σ : L2.St) (T : List (Addr × Str)) (H : Hp) (params : Arguments) (body : Expr) (scope : Scope) (f c' : Addr) (pm ctv : Value) (H1 : Hp) (s' : Shared) : Prop where
  inv : Inv X pins σ H1 s'
  ext : ExtN H H1
  left : ∀ b, H1 b = none → H b = none
  tabs : Tabs T H1
  obj : s'.heap.get? f = some (PySem.W.kla_obj "<lambda>" (X.env.qual ++ "<lambda>") params body scope (cloFrom X.env.cells scope.names []) pm c' ctv)
  free : H1 f = none
  notFr : f ∉ frs X.stack
  code : H1 c' = some (CodeO c' (X.env.qual ++ "<lambda>"))
theorem lam_made {T : List (Addr × Str)} {c P : Addr} {params : Arguments} {body : Expr} {scope : Scope} {pos : Pos} {E : Value → Shared → Prop} {Q : Value → Shared → Prop} (I : Inv X pins σ H s) (tb : TabB X.base X.mg c P) (cd : X.env.code = .ref c)
    (mem : (P, X.env.qual ++ "<lambda>") ∈ T) (one : ∀ z ∈ T, z.1 = P → z.2 = X.env.qual ++ "<lambda>") (hT : Tabs T H) (df : defaultsOf params X.env = ([], [])) (fr : ∀ y ∈ scope.names, y.2 = .free → ∃ c, X.env.cells.lookup y.1 = some c)
    (k : ∀ f c' pm ctv H1 s', LamAt X pins σ T H params body scope f c' pm ctv H1 s' → Q (.ref f) s') :
    wpAny (model X.prog X.w) X.A (eval (.Lambda params body scope pos) X.env) Q E s :=
  by
  obtain ⟨ps, hP, tri, amg⟩ := hT _ mem
  have rawP : s.heap.get? P = some { cls := .none, data := .fields ps } := I.hok P _ hP
  have high : ∀ {f : Addr}, s.heap.objs.size ≤ f → f ∉ frs X.stack := by
    intro f hf hm
    cases List.mem_cons.mp (I.stkSub _ hm) with
    | inl e => exact absurd (e ▸ I.lt) (Nat.not_lt.mpr hf)
    | inr e => exact I.nofs hf e
  refine PySem.W.kla_eval df ?_
  rcases hc : codeAmong pos ps.toList with _ | cv
  · refine PySem.W.kla_makeFunction (mg := X.mg) (c := c) (P := P) (ps := ps) (closure_ok fr) I.ok.glob (I.mod.glob.keeps I.bk) cd (tb.code.keeps I.bk) rawP tri hc tb.gP (tb.bm.keeps I.bk) ?_
    intro c' ctv g tk keep ge lt rec htb
    obtain ⟨_, oc, vs, t, ez, hoc, hd, hv⟩ := rec
    injection ez with ez
    subst ez
    have nc : H c' = none := I.hok.fresh ge
    have big : s.heap.objs.size ≤ g.objs.size := by omega
    have Pl : P < s.heap.objs.size := Heap.lt_size rawP
    have pu : ∀ {b : Addr} {o : Obj}, g.get? b = some o → (g.push (PySem.W.kla_obj "<lambda>" (X.env.qual ++ "<lambda>") params body scope (cloFrom X.env.cells scope.names []) ((X.mg "__name__").getD .none) c' ctv)).get? b = some o := fun e => Heap.get?_push_of_some _ e
    refine k g.objs.size c' _ ctv (tbUp H P c' ps pos _) _ ⟨inv_table (t' := tk) I hP (fun b o hb e => pu (keep b o hb e)) (pu htb) ge ⟨oc, vs, t, pu hoc, hd, hv⟩, tbUp_more hP nc, fun b => tbUp_left, tbUp_tabs hP nc hT one, Heap.get?_push_size _ rfl, ?_, high big, upd_same⟩
    rw [tbUp_off (Nat.ne_of_gt lt) (Nat.ne_of_gt (Nat.lt_of_lt_of_le Pl big))]
    exact I.hok.fresh big
  · obtain ⟨c', rfl, hco⟩ := amg pos cv hc
    refine PySem.W.kla_makeFunctionHit (mg := X.mg) (c := c) (P := P) (ps := ps) (closure_ok fr) I.ok.glob (I.mod.glob.keeps I.bk) cd (tb.code.keeps I.bk) rawP tri hc (tb.bm.keeps I.bk) ?_
    intro ctv g tk keep big
    exact k g.objs.size c' _ ctv H _ ⟨I.kept (t' := tk) fun b o e => Heap.get?_push_of_some _ (keep b o e), ExtN.refl H, fun _ z => z, hT, Heap.get?_push_size _ rfl, I.hok.fresh big, high big, hco⟩
/-- the context of the def g that was handed the lambda, in a try -/
abbrev inDef (X : Cx) (Ng : List Str) (x : Str) (sg : Scope) (g : Addr) (cdg : Value) (s : Shared) (H : Hp) : Cx := cxOf C8.CX0 X.prog X.w X.K X.mg X.base Ng x sg g cdg X.A X.stack s H C8.E0
/-- the lambda's body runs -/
theorem lam_runs {T : List (Addr × Str)} {H0 H HZ : Hp} {params : Arguments} {body : Expr} {scope : Scope} {f c' : Addr} {pm ctv : Value} {s s1 : Shared} {A : Around} {outer : List PySem.Env} {k : Nat} {tb : TE} {E : XK} {Q : VK}
    (M : LamAt X pins σ T H0 params body scope f c' pm ctv H s) (L : LamS X.env.scope scope) (at1 : s1.heap.get? f = some (PySem.W.kla_obj "<lambda>" (X.env.qual ++ "<lambda>") params body scope (cloFrom X.env.cells scope.names []) pm c' ctv))
    (un : Un (frs X.stack) [] H HZ s.heap s1.heap) (e0 : Env0 X.prog X.w X.K X.mg X.base A outer s1 HZ) (nl : s1.heap.NoLimit) (co : HZ c' = some (CodeO c' (X.env.qual ++ "<lambda>"))) (rm : Room (k + 1) A)
    (bd : bindArgs (PySem.W.kla_fn "<lambda>" (X.env.qual ++ "<lambda>") params body scope (cloFrom X.env.cells scope.names []) pm (.ref c') ctv) ⟨[], []⟩ = pure [])
    (hb : PE (lamCx X A outer s1 HZ E scope f c') body tb) (ht : tb σ HZ Q) :
    codeAny (model X.prog X.w) A (.call (.ref f) ⟨[], []⟩) (CR (L2.CX X.prog X.w) outer X.prog X.w HZ s1 Q E) s1 := by
  have ⟨⟨oc, vs, t, c1, c2, c3⟩, _⟩ := e0.hok c' _ co
  refine PySem.W.kla_callFunE rm.depth at1 rfl L.co L.gen rfl ⟨c', oc, vs, t, rfl, c1, c2, c3⟩ ?_
  rw [bd]
  refine wpAny_pure (wpAny_newFunctionEnv (fun y hy => (L.own y hy).2) (by simp) (fun g ns bt => ⟨nl.fresh _ bt, PySem.W.kla_codeExpr ?_⟩) L.kind)
  have old : ∀ b o, s1.heap.get? b = some o → g.get? b = some o := fun b o e => bt.extBut b o (Nat.ne_of_lt (Heap.lt_size e)) (Heap.get?_push_of_some _ e)
  have start := lam_start2 (E := E) (f := f) (c' := c') (tk := s1.toks + ([] : List (Str × Value)).length) M.inv L e0 rm.hd un ns old
  exact wpAny_mono (hb.run [] _ _ HZ Q start ht) (fun v s' ⟨w', H', J, rv, q⟩ => ⟨w', H', J.os, J.bare, J.base, J.hok, rv, q⟩) fun _ _ z => z
/-- a(), in the def g: a is the lambda -/
theorem pe_handed {T : List (Addr × Str)} {H0 H : Hp} {s : Shared} {Ng : List Str} {x a : Str} {sg : Scope} {g f c' : Addr} {cdg pm ctv : Value} {params : Arguments} {body : Expr} {scope : Scope} {k i : Nat} {pn : List (Addr × Obj)} {xe : Value → Shared → Prop} {W : WX} {E : XK} {tb : TE} {p1 p2 : Pos}
    (M : LamAt X pins σ T H0 params body scope f c' pm ctv H s) (L : LamS X.env.scope scope)
    (bd : bindArgs (PySem.W.kla_fn "<lambda>" (X.env.qual ++ "<lambda>") params body scope (cloFrom X.env.cells scope.names []) pm (.ref c') ctv) ⟨[], []⟩ = pure [])
    (tk : Takes ((inDef X Ng x sg g cdg s H).tr pn xe) W) (hW : ∀ cls d σ' H', E cls d H' → W cls d σ' H') (rm : Room (k + 1) (X.A.deeper (envOfC x sg s.heap.objs.size g cdg)))
    (hb : ∀ (A : Around) (outer : List PySem.Env) (s : Shared) (H : Hp), Room k (A.deeper (lamEnv X scope s.heap.objs.size f c')) → A.guards = X.A.guards → PE (lamCx X A outer s H E scope f c') body tb)
    (hi : Ng[i]? = some a) (hv : Vis sg a) (h1 : (a == ("__debug__" : Str)) = false) (h2 : (a == ("__classdict__" : Str)) = false) :
    PE ((inDef X Ng x sg g cdg s H).tr pn xe) (.Call (.Name a p1) [] [] p2)
      (fun σZ HZ Q => σZ[i]? = some (some (.ref f)) ∧
        HZ c' = some (CodeO c' (X.env.qual ++ "<lambda>")) ∧ tb σ HZ Q) := by
  constructor
  rintro pinsZ sZ σZ HZ Q IZ ⟨sl, co, ht⟩
  have name := (pe_var (pos := p1) (i := i) hi hv h1 h2).run pinsZ sZ σZ HZ (fun v H1 => v = .ref f ∧ H1 = HZ) IZ ⟨.ref f, sl, rfl, rfl⟩
  refine wpAny_Call_Name_kw (thn name ?_)
  rintro u s1 ⟨_, _, I1, r1, rfl, rfl⟩
  cases r1
  have at1 := I1.base.keep f _ M.obj M.free M.notFr (by intro z; cases z)
  have run := lam_runs (E := E) (Q := Q) M L at1 I1.base I1.env0 I1.nolimit co rm bd (hb _ _ s1 _ (rm.deeper _) rfl) ht
  refine PySem.W.callWith_F0 ⟨_, _, _, _, at1⟩ (wpAny_call (codeAny_mono run ?_))
  rintro (e | fl) s' done
  · exact passes_call tk hW pinsZ σZ _ s1 e s' I1 done
  · cases fl with
    | ret u => exact I1.after done
    | _ => cases done
end
section
variable {X : Cx}
/-- what is wished of a call that is handed a lambda -/
def tLamD (T : List (Addr × Str)) (TT : (XK → Hp → VK → Prop) → Hp → VK → Prop) (t : XK → TE) : TE := fun σ H Q =>
  Tabs T H ∧ ∀ H1, ExtN H H1 → (∀ b, H1 b = none → H b = none) → Tabs T H1 → TT (fun E H' Q' => t E σ H' Q') H1 Q
/-- x(lambda: body) -/
theorem pe_handing {T : List (Addr × Str)} {TT : (XK → Hp → VK → Prop) → Hp → VK → Prop} {x a : Str} {g c P : Addr} {k : Nat} {pg : Arguments} {bg : List Stmt} {sg : Scope} {dV kV doc pm cdv ct oc : Value} {an od : Option Addr} {osl : Array (Option Value)} {Ng : List Str}
    {params : Arguments} {body : Expr} {scope : Scope} {t : XK → TE} {p lpos pos : Pos}
    (hg : Gl X x) (hm : X.mg x = some (.ref g)) (hk : PySem.W.keepIn X.K (.ref g) = true)
    (lk : X.K.lookup g = some ⟨oc, od, .func (PySem.W.fnOf x x pg bg sg dV kV doc pm an cdv ct), osl⟩) (cdIn : PySem.W.codeIn X.K cdv x = true) (bnd : L2.Binds X.K (PySem.W.fnOf x x pg bg sg dV kV doc pm an cdv ct) [a] [])
    (fs : FnScope Ng [a] sg) (hN0 : Ng[0]? = some a) (hva : Vis sg a) (gv : GivesTo X Ng x sg g cdv bg a (X.env.qual ++ "<lambda>") TT)
    (tb : TabB X.base X.mg c P) (cd : X.env.code = .ref c) (mem : (P, X.env.qual ++ "<lambda>") ∈ T) (one : ∀ z ∈ T, z.1 = P → z.2 = X.env.qual ++ "<lambda>") (rm : Room (k + 2) X.A) (L : LamS X.env.scope scope) (df : defaultsOf params X.env = ([], []))
    (bd : ∀ (q : Str) (cl : List (Str × Addr)) (pm cv ctv : Value), bindArgs (PySem.W.kla_fn "<lambda>" q params body scope cl pm cv ctv) ⟨[], []⟩ = pure [])
    (hb : ∀ (A : Around) (outer : List PySem.Env) (s : Shared) (H : Hp) (E : XK) (f c' : Addr), Room k (A.deeper (lamEnv X scope s.heap.objs.size f c')) → A.guards = X.A.guards → PE (lamCx X A outer s H E scope f c') body (t E))
    (h0 : (x == ("__debug__" : Str)) = false) (h1 : (a == ("__debug__" : Str)) = false) (h2 : (a == ("__classdict__" : Str)) = false) :
    PE X (.Call (.Name x p) [.Lambda params body scope lpos] [] pos) (tLamD T TT t) := by
  constructor
  rintro pins s σ H Q I ⟨hT, ask⟩
  have go : ∀ f c' pm' ctv H1 s', LamAt X pins σ T H params body scope f c' pm' ctv H1 s' → wpAny (model X.prog X.w) X.A (call (.ref g) [.ref f]) (EP X pins σ Q) X.xe s' := by
    intro f c' pm' ctv H1 s' M
    have cdRun : codeAny (model X.prog X.w) X.A (.call (.ref g) ⟨[.ref f], []⟩) (CR C8.CX0 X.stack X.prog X.w H1 s' Q C8.E0) s' :=
      run_ofS (N := Ng) (ps := [a]) (us := [.ref f]) (vs := [.ref f]) lk cdIn fs rm M.inv.env0 (bnd s' [.ref f] M.inv.kIn rfl) (.cons rfl .nil) rfl fun rm' => by
        have ⟨t', pt, ok⟩ := gv f c' s' H1 Q (fun E H' Q' => t E σ H' Q') (fun W pn xe E p1 p2 tk hW => pe_handed (i := 0) M L (bd _ _ _ _ _) tk hW rm' (fun A outer s H r2 gd => hb A outer s H E f c' r2 gd) hN0 hva h1 h2) M.code (ask H1 M.ext M.left M.tabs)
        exact ⟨t', pt.nox, ok⟩
    refine wpAny_call (codeAny_mono cdRun ?_)
    rintro (e | fl) s2 done
    · exact False.elim done
    · cases fl with
      | ret u => exact M.inv.after done
      | _ => cases done
  refine wpAny_Call_Name_kw (ld_glob I hg hm (PySem.W.callWith_K (h₀ := X.base) I.ok.mod.kin hk ?_ (by rfl) (by rfl)) h0)
  show wpAny _ _ (spliced ((false, eval (.Lambda params body scope lpos) X.env)
    :: backTo pos (starEach [] X.env))) _ _ s
  exact Calls.spliced_cons (lam_made I tb cd mem one hT df (L.has I.ok) fun f c' pm' ctv H1 s' M => Calls.spliced_nil ⟨M.inv.kIn, go f c' pm' ctv H1 s' M⟩)
end
end Sb

set_option Elab.async false
set_option linter.all false
set_option maxRecDepth 100000
set_option maxHeartbeats 1900000
/-! The def that tells the word of the error that a call raises. -/
namespace Sb
open PySem PySem.Spec
open PyProof.Rows L2 LamX
/-- the word that the clauses have for an error of the class cls -/
def wordOf (K : PySem.W.Frag) : List (Addr × Str) → Value → (Str → Prop) → Prop
  | [], _, _ => False
  | z :: zs, cls, k => ∃ b, PySem.W.exmOne K cls (.ref z.1) = some b ∧ (if b = true then k z.2 else wordOf K zs cls k)
def TTword (K : PySem.W.Frag) (zs : List (Addr × Str)) (d : Str) : (XK → Hp → VK → Prop) → Hp → VK → Prop := fun tl H Q =>
  tl (fun cls _ H' => wordOf K zs cls fun r => Q (.str r) H') H fun _ H' => Q (.str d) H'
/-- the clauses' text -/
inductive WordT (mg : Str → Option Value) (sg : Scope) (n : Str) : List ExceptHandler → List (Addr × Str) → Prop
  | none : WordT mg sg n [] []
  | more {x r : Str} {c : Addr} {p1 p2 p3 p4 : Pos} {j : Nat} {hs : List ExceptHandler} {zs : List (Addr × Str)} (gl : sg.names.lookup x = some .globalImplicit) (db : (x == ("__debug__" : Str)) = false) (m : mg x = some (.ref c)) (rest : WordT mg sg n hs zs) :
      WordT mg sg n (.ExceptHandler (some (.Name x p1)) (some n) [.Return (some (.Constant (.str r) j p2)) p3] p4 :: hs) ((c, r) :: zs)
def clsOf : List (Addr × Str) → Cls
  | [] => []
  | z :: zs => (.ref z.1, fun _ _ _ => tRet (tC (.str z.2))) :: clsOf zs
theorem wCls_word {K : PySem.W.Frag} {i : Nat} {Wo : WX} {D : Ends} {cls : Value} {d : Option Addr} {σ : L2.St} {H : Hp} : ∀ {zs : List (Addr × Str)}, wordOf K zs cls (fun r => D.rt (.str r) H) → wCls K i Wo D (clsOf zs) cls d σ H
  | [], h => h.elim
  | z :: zs, ⟨b, e1, e2⟩ => ⟨b, e1, by
      cases b with
      | true => rw [if_pos rfl] at e2 ⊢; exact fun a _ => e2
      | false => rw [if_neg (by simp)] at e2 ⊢; exact wCls_word e2⟩
theorem hasCls_word {Y : Cx} {n : Str} {sg : Scope} {mg : Str → Option Value} (esg : Y.env.scope = sg) (emg : Y.mg = mg) : ∀ {hs : List ExceptHandler} {zs : List (Addr × Str)}, WordT mg sg n hs zs → HasCls Y n hs (clsOf zs)
  | _, _, .none => .none
  | _, _, .more gl db m rest => .more ⟨by subst esg; exact gl, db, .inl (by rw [emg]; exact m)⟩ (fun a oe cls d pn _ => pss_one (ps_ret pe_str)) (hasCls_word esg emg rest)
theorem word_gives {X : Cx} {Ng : List Str} {x a n q d : Str} {sg : Scope} {g : Addr} {cdg : Value} {h : ExceptHandler} {hs : List ExceptHandler} {zs : List (Addr × Str)} {i j : Nat} {p1 p2 p3 p4 p5 p6 : Pos} (tx : WordT X.mg sg n (h :: hs) zs)
    (nd : Ng.Nodup) (hi : Ng[i]? = some n) (ln : sg.names.lookup n = some .local) (first : ∀ f : Addr, (L2.start Ng [V.ref f])[0]? = some (some (V.ref f))) (sw : ∀ Y : Cx, swapsWith (.Call (.Name a p1) [] [] p2) none p3.line Y.env = pure false) :
    GivesTo X Ng x sg g cdg [.Try [.Expr (.Call (.Name a p1) [] [] p2) p3] (h :: hs) [] [] p4, .Return (some (.Constant (.str d) j p5)) p6] a q (TTword X.K zs d) := by
  intro f c' s H Q tl act co ask
  have try_ := ps_try_named (X := (inDef X Ng x sg g cdg s H).nox) (pos := p4) (n := n) (i := i) (zs := clsOf zs) (body := [.Expr (.Call (.Name a p1) [] [] p2) p3])
    (tb := fun W D σ H => ∃ E : XK, (∀ cls d σ' H', E cls d H' → W cls d σ' H') ∧ σ[0]? = some (some (.ref f)) ∧ H c' = some (CodeO c' q) ∧ tl E H fun _ H' => D.nx σ H')
    rfl rfl nd hi ln takes0 (fun W pn xe tk => ⟨fun pins s' σ H' D I ⟨E, hW, h1, h2, h3⟩ => (pss_one (ps_expr (pos := p3) (act W pn xe E p1 p2 tk hW) (sw _))).run pins s' σ H' D I ⟨h1, h2, h3⟩⟩)
    (hasCls_word (Y := (inDef X Ng x sg g cdg s H).nox) rfl rfl tx)
  refine ⟨_, pss_cons try_ (pss_one (ps_ret (pos := p6) (pe_str (x := d) (j := j) (pos := p5)))), ?_⟩
  exact ⟨fun cls _ H' => wordOf X.K zs cls fun r => Q (.str r) H', fun cls d σ' H' w => wCls_word w, first f, co, ask⟩
end Sb

set_option Elab.async false
set_option linter.all false
set_option maxRecDepth 100000
/-! From the program's text to the language. -/
namespace Sb
open PySem
structure GI where
  fn : List (Str × Nat)
  io : Nat → List Bool
  cst : List (Str × D)
  exc : List (Str × Nat)
  /-- defs that tell the word of the error that a call raises: the classes' words, the word for none -/
  lam : List (Str × List (Nat × Str) × Str)
structure CI where
  g : GI
  N : List Str
  sc : Scope
  fc : Str → Bool
  lm : Bool
def eqS (a b : Str) : Bool := a == b
def CI.ix (c : CI) (x : Str) : Option Nat := if c.N.idxOf x < c.N.length then some (c.N.idxOf x) else none
def CI.vis (c : CI) (x : Str) : Bool := match c.sc.names.lookup x with
  | some .local => true
  | some .cell => true
  | some .free => true
  | _ => false
def CI.loc (c : CI) (x : Str) : Bool := match c.sc.names.lookup x with
  | some .local => true
  | some .cell => c.fc x
  | _ => false
def CI.glb (c : CI) (x : Str) : Bool := match c.sc.names.lookup x with
  | some .globalImplicit => true
  | _ => false
/-- a name that is read -/
def CI.rd (c : CI) (x : Str) : Option Nat := if c.vis x && !eqS x "__debug__" && !eqS x "__classdict__" then c.ix x else none
/-- a name that is written -/
def CI.wr (c : CI) (x : Str) : Option Nat := if c.loc x then c.ix x else none
def notStar : Expr → Bool
  | .Starred _ _ => false
  | _ => true
def notSet : Expr → Bool
  | .Set _ _ _ => false
  | _ => true
def notSlice : Expr → Bool
  | .Slice _ _ _ _ => false
  | _ => true
def notComp : Expr → Bool
  | .ListComp _ _ _ _ => false
  | .SetComp _ _ _ _ => false
  | .DictComp _ _ _ _ _ => false
  | _ => true
/-- expressions whose test is their value's truth -/
def plainT : Expr → Bool
  | .Name _ _ => true
  | .Call _ _ _ _ => true
  | .Subscript _ _ _ => true
  | .Tuple _ _ _ => false
  | _ => false
def cmpOf : CmpOp → Op2
  | .Eq => .eq | .NotEq => .ne | .Lt => .lt | .LtE => .le | .Gt => .gt | .GtE => .ge | .Is => .is_ | .IsNot => .isnt | .In => .inn | .NotIn => .nin
def binOf : Operator → Option Op2
  | .Add => some .add | .Sub => some .sub | .Mult => some .mul | .FloorDiv => some .fdiv | .Mod => some .mod | .Pow => some .pow
  | _ => none
def tyOf (x : Str) : Option Ty :=
  if eqS x "int" then some .int else if eqS x "bool" then some .bool else if eqS x "tuple" then some .tuple else if eqS x "list" then some .list else if eqS x "str" then some .str else none
def CI.ty1 (c : CI) : Expr → Option Ty
  | .Name x _ => if c.glb x then tyOf x else none
  | _ => none
def CI.tys (c : CI) : List Expr → Option (List Ty)
  | [] => some []
  | e :: r => match c.ty1 e, c.tys r with
    | some t, some ts => some (t :: ts)
    | _, _ => none
def blt1 (x : Str) : Option Op1 :=
  if eqS x "len" then some .len else if eqS x "int" then some .int_ else if eqS x "str" then some .str_ else if eqS x "repr" then some .repr_ else if eqS x "tuple" then some .tuple else
  if eqS x "min" then some .min_ else if eqS x "max" then some .max_ else if eqS x "sum" then some .sum_ else if eqS x "all" then some .all_ else if eqS x "any" then some .any_ else none
def blt2 (x : Str) : Option Op2 :=
  if eqS x "min" then some .min2 else if eqS x "max" then some .max2 else none
def CI.tg1 (c : CI) : Expr → Option Nat
  | .Name x _ => c.wr x
  | _ => none
def CI.tgs (c : CI) : List Expr → Option (List Nat)
  | [] => some []
  | e :: r => match c.tg1 e, c.tgs r with
    | some i, some is => some (i :: is)
    | _, _ => none
def CI.tg (c : CI) : Expr → Option Tg
  | .Name x _ => (c.wr x).map .nm
  | .Tuple es _ _ => (c.tgs es).map .nms
  | _ => none
def isNm (x : Str) : Expr → Bool
  | .Name y _ => eqS y x
  | _ => false
/-- a block's own names, with their places -/
def CI.own (c : CI) (scope : Scope) : List (Str × Nat) := scope.names.filterMap fun y => match y.2 with
  | .local => (c.ix y.1).map fun i => (y.1, i)
  | .cell => (c.ix y.1).map fun i => (y.1, i)
  | _ => none
def CI.blk (c : CI) (scope : Scope) : CI := { c with sc := L2.relS scope c.sc, lm := false, fc := fun x => match scope.names.lookup x with | some .cell => true | _ => false }
def CI.lmd (c : CI) (scope : Scope) : CI := { c with sc := scope, lm := false, fc := fun _ => false }
def noPar : Arguments → Bool
  | ⟨[], [], none, [], [], none, []⟩ => true
  | _ => false
/-- a lambda that is handed to a def that tells words -/
def CI.lamOf (c : CI) (x : Str) : List Expr → Option ((List (Nat × Str) × Str) × Scope × Expr)
  | [.Lambda ps body scope _] => match c.g.lam.lookup x with
    | some w => if c.lm && LamX.lamSB c.sc scope && noPar ps then some (w, scope, body) else none
    | none => none
  | _ => none
def isCall : Expr → Bool
  | .Call (.Name _ _) (_ :: _) [] _ => true
  | _ => false
def isTup2 : Expr → Bool
  | .Tuple _ _ _ => true
  | _ => false
mutual
def compE : Nat → CI → Expr → IE
  | 0, _, _ => .bad
  | n + 1, c, e => match e with
    | .Constant k _ _ => match k with
      | .none => .cst .non
      | .bool b => .cst (.bl b)
      | .int i => .cst (.int i)
      | .str x => .cst (.str x)
      | _ => .bad
    | .Name x _ => match c.rd x with
      | some i => .var i
      | none => if c.glb x && !eqS x "__debug__" then match c.g.cst.lookup x with
        | some d => .cst d
        | none => .bad
        else .bad
    | .BinOp a op b _ => match binOf op with
      | some o => .op2 o (compO n c a) (compO n c b)
      | none => .bad
    | .UnaryOp op a _ => match op with
      | .Not => .op1 .not_ (compE n c a)
      | .USub => .op1 .neg (compO n c a)
      | _ => .bad
    | .BoolOp op es _ => compB n c op es
    | .Compare a ops bs _ => compCmp n c a ops bs
    | .IfExp t a b _ => .ite (compT n c t) (compE n c a) (compE n c b)
    | .Tuple es _ _ => if es.all notStar && decide (es.length ≤ 100) then .tup (compEs n c es) else .bad
    | .List es _ => if es.all notStar && decide (es.length ≤ 100) then .lst (compEs n c es) else .bad
    | .Dict ks vs _ => match ks, vs with
      | [], [] => .dnil
      | [some k], [v] => .d1 (compE n c k) (compE n c v)
      | _, _ => .bad
    | .Subscript a s _ => match s with
      | .Slice lo hi none _ => .sl (compO n c a) (compP n c lo) (compP n c hi)
      | .Slice none none (some (.UnaryOp .USub (.Constant (.int 1) _ _) _)) _ => .op1 .rev (compO n c a)
      | .Slice _ _ _ _ => .bad
      | s => .op2 .idx (compO n c a) (compO n c s)
    | .ListComp el gs scope _ => match gs with
      | [⟨t, it, ifs, 0⟩] => match (c.blk scope).tg t with
        | some tg => if notSet it && L2.blkC c.N c.sc scope (c.own scope) && (tgIx tg).all (fun i => decide (i ∈ (c.own scope).map (·.2))) then
          .comp (compI n c (isTup2 t) it) tg ((c.own scope).map (·.2)) (compTs n (c.blk scope) ifs) (compE n (c.blk scope) el) else .bad
        | none => .bad
      | _ => .bad
    | .DictComp k v gs scope _ => match gs with
      | [⟨t, it, [], 0⟩] => match (c.blk scope).tg t with
        | some tg => if notSet it && L2.blkC c.N c.sc scope (c.own scope) && (tgIx tg).all (fun i => decide (i ∈ (c.own scope).map (·.2))) then
          .dcomp (compI n c (isTup2 t) it) tg ((c.own scope).map (·.2)) (compE n (c.blk scope) k) (compE n (c.blk scope) v) else .bad
        | none => .bad
      | _ => .bad
    | .Call f as ks pos => match ks with
      | [] => compC n c f as pos
      | _ => .bad
    | _ => .bad
/-- an operand -/
def compO : Nat → CI → Expr → IE
  | 0, _, _ => .bad
  | n + 1, c, e => match e with
    | .Name x _ => match c.rd x with
      | some i => .pk i
      | none => compE n c e
    | _ => compE n c e
def compCmp : Nat → CI → Expr → List CmpOp → List Expr → IE
  | 0, _, _, _, _ => .bad
  | n + 1, c, a, ops, bs => match ops, bs with
    | [o], [b] => if notSet b then .op2 (cmpOf o) (compO n c a) (compO n c b) else .bad
    | [o, o'], [b, d] => if notSet b && notSet d then .chain (cmpOf o) (cmpOf o') (compO n c a) (compO n c b) (compO n c d) else .bad
    | _, _ => .bad
def compB : Nat → CI → BoolOp → List Expr → IE
  | 0, _, _, _ => .bad
  | n + 1, c, op, es => match es with
    | [] => .bad
    | [a] => compE n c a
    | a :: b :: r => match op with
      | .And => .and2 (compE n c a) (compB n c op (b :: r))
      | .Or => .or2 (compE n c a) (compB n c op (b :: r))
def compT : Nat → CI → Expr → IT
  | 0, _, _ => .val .bad
  | n + 1, c, e => match e with
    | .UnaryOp .Not a _ => .not_ (compT n c a)
    | .BoolOp op es _ => compBT n c op es
    | .Compare a ops bs _ => .val (compCmp n c a ops bs)
    | e => if plainT e then .val (compO n c e) else .val .bad
def compBT : Nat → CI → BoolOp → List Expr → IT
  | 0, _, _, _ => .val .bad
  | n + 1, c, op, es => match es with
    | [] => .val .bad
    | [a] => compT n c a
    | a :: b :: r => match op with
      | .And => .and_ (compT n c a) (compBT n c op (b :: r))
      | .Or => .or_ (compT n c a) (compBT n c op (b :: r))
def compEs : Nat → CI → List Expr → List IE
  | 0, _, _ => [.bad]
  | n + 1, c, es => match es with
    | [] => []
    | e :: r => compE n c e :: compEs n c r
def compP : Nat → CI → Option Expr → IO
  | 0, _, _ => .e .bad
  | n + 1, c, o => match o with
    | none => .no
    | some e => .e (compO n c e)
def compTs : Nat → CI → List Expr → List IT
  | 0, _, _ => [.val .bad]
  | n + 1, c, es => match es with
    | [] => []
    | [t] => [compT n c t]
    | _ => [.val .bad]
def compAs : Nat → CI → List Bool → List Expr → List IA
  | 0, _, _, _ => [.e .bad]
  | n + 1, c, fs, es => match es with
    | [] => []
    | e :: r => match fs, e with
      | true :: fs, .Name x _ => match c.rd x with
        | some i => .io i :: compAs n c fs r
        | none => [.e .bad]
      | true :: _, _ => [.e .bad]
      | false :: fs, e => .e (compE n c e) :: compAs n c fs r
      | [], e => .e (compE n c e) :: compAs n c [] r
/-- what is walked; by a target that is a tuple -/
def compI : Nat → CI → Bool → Expr → Itr
  | 0, _, _, _ => .seq .bad
  | n + 1, c, tt, e => match e with
    | .Call (.Name x p) as [] pos => match c.glb x, (c.g.fn.lookup x).isSome, as with
      | true, false, [a] => if eqS x "range" && notStar a then .rng1 (compO n c a) else if eqS x "enumerate" && notStar a && tt then .enum (compE n c a) else .seq (compE n c e)
      | true, false, [a, b] => if eqS x "range" && notStar a && notStar b then .rng2 (compO n c a) (compO n c b) else if eqS x "zip" && notStar a && notStar b && tt then .zip (compE n c a) (compE n c b) else .seq (compE n c e)
      | _, _, _ => .seq (compE n c e)
    | .Call (.Attribute a m apos) [] [] pos => if eqS m "items" && tt && (apos.endLine == pos.line) && isCall a then .items (compE n c a) else .seq (compE n c e)
    | e => .seq (compE n c e)
def compC : Nat → CI → Expr → List Expr → Pos → IE
  | 0, _, _, _, _ => .bad
  | n + 1, c, f, as, pos => match f with
    | .Name x _ => if c.glb x && as.all notStar && !eqS x "__debug__" then match c.lamOf x as with
        | some (w, scope, body) => .lam 0 (w.1.map fun z => (z.1, .str z.2)) (.str w.2) (compE n (c.lmd scope) body)
        | none => match c.g.fn.lookup x with
        | some k => .call k (compAs n c (c.g.io k) as)
        | none => match as with
          | [a] => if eqS x "list" then match a with
              | .Call (.Name y _) [b] [] _ => if c.glb y && eqS y "range" && notStar b then .op1 .rng1 (compO n c b) else .op1 .list (compO n c a)
              | .Call (.Name y _) [b, d] [] _ => if c.glb y && eqS y "range" && notStar b && notStar d then .op2 .rng2 (compO n c b) (compO n c d) else if c.glb y && eqS y "zip" && notStar b && notStar d then .op2 .zipl (compO n c b) (compO n c d) else .op1 .list (compO n c a)
              | a => .op1 .list (compO n c a)
            else if eqS x "sorted" then match a with
              | .Call (.Name y _) [b] [] _ => if c.glb y && eqS y "set" && notStar b then .op1 .sset (compO n c b) else .op1 .sorted (compO n c a)
              | a => .op1 .sorted (compO n c a)
            else match blt1 x with
              | some o => .op1 o (compO n c a)
              | none => .bad
          | [a, b] => if eqS x "isinstance" then match b with
              | .Tuple ts _ _ => match c.tys ts with
                | some ys => if decide (ys.length ≤ 10) && decide (1 ≤ ys.length) then .op1 (.isi ys) (compO n c a) else .bad
                | none => .bad
              | b => match c.ty1 b with
                | some t => .op1 (.isi [t]) (compO n c a)
                | none => .bad
            else match blt2 x with
              | some o => .op2 o (compO n c a) (compO n c b)
              | none => .bad
          | _ => .bad
      else .bad
    | .Attribute (.Name y _) m apos => match c.rd y with
      | some i => if eqS m "pop" && (apos.endLine == pos.line) && as.all notStar then match as with
        | [] => .pop i
        | [k] => .popAt i (compO n c k)
        | _ => .bad
        else .bad
      | none => .bad
    | _ => .bad
end
end Sb

set_option Elab.async false
set_option linter.all false
set_option maxRecDepth 100000
/-! The language tells what the text does: expressions. -/
namespace Sb
open PySem PySem.Spec PyProof.Rows L2
/-- built-in names -/
def bltN : List Str := ["len", "int", "str", "repr", "tuple", "min", "max", "sum", "all", "any", "list", "sorted", "range", "zip", "set", "enumerate", "isinstance", "bool"]
/-- the def at x tells the words w of the error that a call raises -/
def WordOk (K : PySem.W.Frag) (mg : Str → Option Value) (ca : Nat → Addr) (x : Str) (w : List (Nat × Str) × Str) : Prop :=
  ∃ (g : Addr) (pg : Arguments) (h : ExceptHandler) (hs : List ExceptHandler) (sg : Scope) (dV kV doc pm cdv ct oc : Value) (an od : Option Addr) (osl : Array (Option Value)) (Ng : List Str) (a n : Str) (i j : Nat) (p1 p2 p3 p4 p5 p6 : Pos),
    mg x = some (.ref g) ∧ PySem.W.keepIn K (.ref g) = true ∧
    K.lookup g = some ⟨oc, od, .func (PySem.W.fnOf x x pg [.Try [.Expr (.Call (.Name a p1) [] [] p2) p3] (h :: hs) [] [] p4, .Return (some (.Constant (.str w.2) j p5)) p6] sg dV kV doc pm an cdv ct), osl⟩ ∧
    PySem.W.codeIn K cdv x = true ∧ Binds K (PySem.W.fnOf x x pg [.Try [.Expr (.Call (.Name a p1) [] [] p2) p3] (h :: hs) [] [] p4, .Return (some (.Constant (.str w.2) j p5)) p6] sg dV kV doc pm an cdv ct) [a] [] ∧
    FnScope Ng [a] sg ∧ Ng[0]? = some a ∧ Vis sg a ∧ WordT mg sg n (h :: hs) (w.1.map fun z => (ca z.1, z.2)) ∧ Ng[i]? = some n ∧ sg.names.lookup n = some .local ∧
    (a == ("__debug__" : Str)) = false ∧ (a == ("__classdict__" : Str)) = false
/-- lambdas may be made here -/
def MkTab (T : List (Addr × Str)) (base : Heap) (mg : Str → Option Value) (cd : Value) (q : Str) : Prop :=
  ∃ cP P, cd = .ref cP ∧ LamX.TabB base mg cP P ∧ (P, q ++ "<lambda>") ∈ T ∧ ∀ z ∈ T, z.1 = P → z.2 = q ++ "<lambda>"
structure CtxOk (C : Cal) (L : Lk) (E : XK) (c : CI) (k : Nat) (X : Cx) : Prop where
  K : X.K = L.K
  N : X.N = c.N
  nd : c.N.Nodup
  sc : X.env.scope = c.sc
  fc : ∀ x, c.fc x = true → X.fn x = true
  calm : X.calm = true
  gu : X.A.guards = some []
  room : Room k X.A
  tk : Takes X (WE E)
  fn : ∀ x f, c.g.fn.lookup x = some f → ∃ a fd ps j, X.mg x = some (.ref a) ∧ PySem.W.keepIn X.K (.ref a) = true ∧ Binds X.K fd ps [] ∧ FnG X.prog X.w X.K X.mg X.base j a fd ps (spD L (C f)) ∧ j + (if c.lm then 2 else 0) ≤ k
  lv : c.lm = true → 2 ≤ k
  wd : ∀ x w, c.g.lam.lookup x = some w → WordOk X.K X.mg L.ca x w
  tb : c.lm = true → MkTab L.T X.base X.mg X.env.code X.env.qual
  blt : ∀ x ∈ bltN, X.mg x = none
  cst : ∀ x d, c.g.cst.lookup x = some d → ∃ v u, X.mg x = some u ∧ RelV v u ∧ ∀ B H, Rep L B H d v
section
variable {C : Cal} {sub : Nat → Nat → Bool} {L : Lk} {E : XK} {c : CI} {k : Nat} {X : Cx} {W : WX}
theorem t_bad {W : WX} : ∀ σ H Q, ¬ TEv C sub L W .bad σ H Q := fun σ H Q ⟨_, _, _, _, _, h⟩ => by rw [evE] at h; exact h
theorem pe_bad {e : Expr} : PE X e (TEv C sub L W .bad) := ⟨fun pins s σ H Q I h => (t_bad σ H Q h).elim⟩
theorem pt_bad {e : Expr} : PT X e (TTv C sub L W (.val .bad)) := ⟨fun pins s σ H Q I h => (t_bad σ H _ (ttv_val σ H Q h)).elim⟩
theorem pw_bad {e : Expr} : PW X e (TTv C sub L W (.val .bad)) := ⟨fun wh pins s σ H Q I h => (t_bad σ H _ (ttv_val σ H Q h)).elim⟩
theorem pa_bad {es : List Expr} : PA X es (TAv C sub L W [.bad]) := ⟨fun ps pins s σ H Q I h => (t_bad σ H _ (t_acons σ H Q h)).elim⟩
theorem pas_bad {es : List Expr} : PA X es (TAs C sub L W [.e .bad]) := ⟨fun ps pins s σ H Q I h => (t_bad σ H _ (ta_cons σ H Q h)).elim⟩
theorem pts_bad {es : List Expr} : PTs X es (TTs C sub L W [.val .bad]) := ⟨fun pins s σ H Q I h => (t_bad σ H _ (ttv_val σ H Q (tts_one σ H Q h))).elim⟩
theorem po_bad {e : Option Expr} : PO X e (TOv C sub L W (.e .bad)) := ⟨fun pins s σ H Q I h => (t_bad σ H _ h).elim⟩
theorem ti_bad : ∀ σ H R, ¬ TIv C sub L W (.seq .bad) σ H R := fun σ H R h => (TIv.seq σ H R h).elim (t_bad σ H _) (t_bad σ H _)
theorem pi_bad {tg e : Expr} : PI X tg e (TIv C sub L W (.seq .bad)) := ⟨fun pins s σ H R I h => (ti_bad σ H R h).elim⟩
theorem eqS_eq {a b : Str} (h : eqS a b = true) : a = b := by
  unfold eqS at h
  exact eq_of_beq h
theorem ix_ok (ok : CtxOk C L E c k X) {x : Str} {i : Nat} (h : c.ix x = some i) : X.N[i]? = some x := by
  unfold CI.ix at h
  split at h
  · rename_i hl
    cases h
    rw [ok.N, List.getElem?_eq_getElem hl, List.getElem_idxOf hl]
  · cases h
theorem rd_ok (ok : CtxOk C L E c k X) {x : Str} {i : Nat} (h : c.rd x = some i) : X.N[i]? = some x ∧ Vis X.env.scope x ∧ (x == ("__debug__" : Str)) = false ∧ (x == ("__classdict__" : Str)) = false := by
  unfold CI.rd at h
  split at h
  · rename_i hv
    simp only [Bool.and_eq_true, Bool.not_eq_true'] at hv
    refine ⟨ix_ok ok h, ?_, hv.1.2, hv.2⟩
    have := hv.1.1
    unfold CI.vis at this
    rw [← ok.sc] at this
    unfold Vis
    split at this
    · exact .inl (by assumption)
    · exact .inr (.inl (by assumption))
    · exact .inr (.inr (by assumption))
    · cases this
  · cases h
theorem glb_ok (ok : CtxOk C L E c k X) {x : Str} (h : c.glb x = true) : Gl X x := by
  unfold CI.glb at h
  rw [← ok.sc] at h
  split at h
  · assumption
  · cases h
theorem wr_ok (ok : CtxOk C L E c k X) {x : Str} {i : Nat} (h : c.wr x = some i) : X.N[i]? = some x ∧ L2.Loc X.env.scope x ∧ (X.fn x = true ∨ X.env.scope.names.lookup x = some .local) := by
  unfold CI.wr at h
  split at h
  · rename_i hv
    refine ⟨ix_ok ok h, ?_⟩
    unfold CI.loc at hv
    rw [← ok.sc] at hv
    unfold L2.Loc
    split at hv
    · rename_i q; exact ⟨.inl q, .inr q⟩
    · rename_i q; exact ⟨.inr q, .inl (ok.fc x hv)⟩
    · cases hv
  · cases h
theorem units65 (ok : CtxOk C L E c k X) : X.A.units + 65 < cLine := by have := ok.room.un; omega
/-- a block's context -/
theorem CtxOk.blk (ok : CtxOk C L E c k X) (s : Shared) (H : Hp) (scope : Scope) (cn : Addr) (cl : List (Str × Addr)) (fp : List Addr) : CtxOk C L (fun _ _ _ => False) (c.blk scope) k (X.blk s H scope (compEnvC scope cl cn X.env) fp) where
  K := ok.K
  N := ok.N
  nd := ok.nd
  sc := by
    show relabel scope X.env = L2.relS scope c.sc
    rw [← ok.sc]
    rfl
  fc := fun x h => by
    have h' : (match scope.names.lookup x with | some NameKind.cell => true | _ => false) = true := h
    show (scope.names.lookup x == some NameKind.cell) = true
    split at h'
    · rename_i q; rw [q]; rfl
    · cases h'
  calm := ok.calm
  gu := ok.gu
  room := ok.room
  tk := fun u s' ⟨_, _, _, _, _, _, _, _, _, _, _, _, _, _, _, _, w⟩ => w.elim
  fn := fun x f h => by
    obtain ⟨a, fd, ps, j, h1, h2, h3, h4, h5⟩ := ok.fn x f h
    exact ⟨a, fd, ps, j, h1, h2, h3, h4, by show j + (if false = true then 2 else 0) ≤ k; simp only [Bool.false_eq_true, if_false]; omega⟩
  lv := fun z => nomatch (show false = true from z)
  wd := ok.wd
  tb := fun z => nomatch (show false = true from z)
  blt := ok.blt
  cst := ok.cst
/-- a lambda's context -/
theorem CtxOk.lmd (ok : CtxOk C L E c (k + 2) X) (hl : c.lm = true) {A : Around} {outer : List PySem.Env} {s : Shared} {H : Hp} {E' : XK} {scope : Scope} {f c' : Addr} (rm : Room k (A.deeper (LamX.lamEnv X scope s.heap.objs.size f c'))) (hg : A.guards = X.A.guards) :
    CtxOk C L E' (c.lmd scope) k (LamX.lamCx X A outer s H E' scope f c') where
  K := ok.K
  N := ok.N
  nd := ok.nd
  sc := rfl
  fc := fun x h => nomatch (show false = true from h)
  calm := rfl
  gu := by
    show A.guards = some []
    rw [hg]; exact ok.gu
  room := rm
  tk := takes_of rfl rfl rfl rfl
  fn := fun x f h => by
    obtain ⟨a, fd, ps, j, h1, h2, h3, h4, h5⟩ := ok.fn x f h
    rw [if_pos hl] at h5
    exact ⟨a, fd, ps, j, h1, h2, h3, h4, by show j + (if false = true then 2 else 0) ≤ k; simp only [Bool.false_eq_true, if_false]; omega⟩
  lv := fun z => nomatch (show false = true from z)
  wd := ok.wd
  tb := fun z => nomatch (show false = true from z)
  blt := ok.blt
  cst := ok.cst
theorem star_cons {e : Expr} {es : List Expr} {env : PySem.Env} (h : notStar e = true) : starEach (e :: es) env = (false, eval e env) :: starEach es env := by
  cases e <;> first | rfl | (cases h)
theorem star_any {env : PySem.Env} {pos : Pos} : ∀ {es : List Expr}, es.all notStar = true → (backTo pos (starEach es env)).any (·.1) = false
  | [], _ => rfl
  | e :: es, h => by
    simp only [List.all_cons, Bool.and_eq_true] at h
    rw [star_cons h.1]
    show (false || (backTo pos (starEach es env)).any (·.1)) = false
    rw [star_any h.2]; rfl
theorem noset_in {op : CmpOp} {b : Expr} (h : notSet b = true) : behindInMarks op b = false := by
  cases b <;> first | rfl | (cases h)
theorem noset_fold {it : Expr} {env : PySem.Env} (h : notSet it = true) : ∀ x, foldedSetIterable it env x = pure x := fun x => by
  cases it <;> first | rfl | (cases h)
theorem plain_ix {b : Expr} (h : notSlice b = true) : PlainIx b := fun o i => by
  cases b <;> first | rfl | (cases h)
theorem plain_tru {e : Expr} (h : plainT e = true) : ∀ whole, isTrue e X.env whole = (do let v ← whole; standAt e.pos; holding [v] (truthy v)) := fun whole => by
  cases e <;> first | rfl | (cases h)
theorem own_ix (ok : CtxOk C L E c k X) {scope : Scope} (h : L2.blkC c.N c.sc scope (c.own scope) = true) : BlkOk X.N X.env.scope scope (c.own scope) := by
  rw [ok.N, ok.sc]
  exact blkOk_by h
/-! targets -/
theorem tg1_ok (ok : CtxOk C L E c k X) {e : Expr} {i : Nat} (h : c.tg1 e = some i) : PG X e (gName i) ∧ ∀ (es : List Expr) (env : PySem.Env), (assignEach (e :: es) env) = (false, assign e env) :: assignEach es env := by
  cases e <;> simp only [CI.tg1, reduceCtorEq] at h
  obtain ⟨a, b, d⟩ := wr_ok ok h
  exact ⟨pg_name (by rw [ok.N]; exact ok.nd) a b d, fun _ _ => rfl⟩
theorem tgs_ok (ok : CtxOk C L E c k X) : ∀ {es : List Expr} {is : List Nat}, c.tgs es = some is → PGs X es (gNms is) ∧ (assignEach es X.env).length = is.length ∧ (assignEach es X.env).findIdx? (·.1) = none
  | [], is, h => by
    simp only [CI.tgs, Option.some.injEq] at h
    subst h
    exact ⟨pgs_nil, rfl, rfl⟩
  | e :: es, is, h => by
    simp only [CI.tgs] at h
    cases q1 : c.tg1 e with
    | none => rw [q1] at h; simp at h
    | some i => cases q2 : c.tgs es with
      | none => rw [q1, q2] at h; simp at h
      | some is' =>
        rw [q1, q2] at h
        simp only [Option.some.injEq] at h
        subst h
        obtain ⟨g1, a1⟩ := tg1_ok ok q1
        obtain ⟨g2, a2, a3⟩ := tgs_ok ok q2
        refine ⟨pgs_cons g1 g2 (by rw [a1]; rfl), by rw [a1]; simp [a2], ?_⟩
        rw [a1, List.findIdx?_cons]
        simp [a3]
theorem tg_ok (ok : CtxOk C L E c k X) {e : Expr} {t : Tg} (h : c.tg e = some t) : PG X e (gTg L.K t) := by
  cases e <;> simp only [CI.tg, reduceCtorEq, Option.map_eq_some_iff] at h
  · obtain ⟨i, h1, rfl⟩ := h
    exact (tg1_ok (c := c) (X := X) (e := .Name _ _) ok h1).1
  · obtain ⟨is, h1, rfl⟩ := h
    obtain ⟨g, a, b⟩ := tgs_ok ok h1
    rw [← ok.K]
    exact pg_tup ok.calm g a b
theorem tg_tup {e : Expr} (h : isTup2 e = true) : ∃ es kk p, e = .Tuple es kk p := by
  cases e <;> simp only [isTup2, Bool.false_eq_true] at h
  exact ⟨_, _, _, rfl⟩
/-! operations -/
theorem cmp_ok (ok : CtxOk C L E c k X) (o : CmpOp) : ∃ r : R2, OpR X (compareOp o) r ∧ Op2S L r (cmpOf o) := by
  have u := units65 ok
  have hK := ok.K
  cases o
  · exact ⟨_, by rw [← hK]; exact op_eqG (by omega), s_eq⟩
  · exact ⟨_, by rw [← hK]; exact op_neG (by omega), s_ne⟩
  · exact ⟨_, by rw [← hK]; exact op_ltG (by omega), s_lt⟩
  · exact ⟨_, op_le, s_le⟩
  · exact ⟨_, op_gt, s_gt⟩
  · exact ⟨_, by rw [← hK]; exact op_geG (by omega), s_ge⟩
  · exact ⟨_, op_is1, s_is⟩
  · exact ⟨_, op_is2, s_isnt⟩
  · exact ⟨_, by rw [← hK]; exact op_in1 (by omega), s_inn⟩
  · exact ⟨_, by rw [← hK]; exact op_in2 (by omega), s_nin⟩
theorem cmp_isCmp (o : CmpOp) : isCmp (cmpOf o) = true := by cases o <;> rfl
theorem bin_ok (ok : CtxOk C L E c k X) {op : Operator} {o : Op2} (h : binOf op = some o) : ∃ r : R2, OpR X (binaryOp op) r ∧ Op2S L r o := by
  have hK := ok.K
  cases op <;> simp only [binOf, reduceCtorEq, Option.some.injEq] at h <;> subst h
  · exact ⟨_, by rw [← hK]; exact op_addG, s_add⟩
  · exact ⟨_, op_sub, s_sub⟩
  · exact ⟨_, by rw [← hK]; exact op_mulG, s_mul⟩
  · exact ⟨_, op_modN, s_mod⟩
  · exact ⟨_, op_pow, s_pow⟩
  · exact ⟨_, op_fdivN, s_fdiv⟩
end
end Sb

set_option Elab.async false
set_option linter.all false
set_option maxRecDepth 100000
/-! Expressions: the text and the language. -/
namespace Sb
open PySem PySem.Spec PyProof.Rows L2
structure Sound (C : Cal) (sub : Nat → Nat → Bool) (L : Lk) (k : Nat) (n : Nat) : Prop where
  E : ∀ (E : XK) (c : CI) (X : Cx), CtxOk C L E c k X → ∀ e, PE X e (TEv C sub L (WE E) (compE n c e))
  O : ∀ (E : XK) (c : CI) (X : Cx), CtxOk C L E c k X → ∀ e, PE X e (TEv C sub L (WE E) (compO n c e))
  B : ∀ (E : XK) (c : CI) (X : Cx), CtxOk C L E c k X → ∀ op es pos, PE X (.BoolOp op es pos) (TEv C sub L (WE E) (compB n c op es))
  Cmp : ∀ (E : XK) (c : CI) (X : Cx), CtxOk C L E c k X → ∀ a ops bs pos, PE X (.Compare a ops bs pos) (TEv C sub L (WE E) (compCmp n c a ops bs)) ∧ PT X (.Compare a ops bs pos) (TTv C sub L (WE E) (.val (compCmp n c a ops bs)))
  T : ∀ (E : XK) (c : CI) (X : Cx), CtxOk C L E c k X → ∀ e, PT X e (TTv C sub L (WE E) (compT n c e))
  BT : ∀ (E : XK) (c : CI) (X : Cx), CtxOk C L E c k X → ∀ op es pos, PW X (.BoolOp op es pos) (TTv C sub L (WE E) (compBT n c op es))
  Es : ∀ (E : XK) (c : CI) (X : Cx), CtxOk C L E c k X → ∀ es, es.all notStar = true → PA X es (TAv C sub L (WE E) (compEs n c es))
  P : ∀ (E : XK) (c : CI) (X : Cx), CtxOk C L E c k X → ∀ o, PO X o (TOv C sub L (WE E) (compP n c o))
  Ts : ∀ (E : XK) (c : CI) (X : Cx), CtxOk C L E c k X → ∀ es, PTs X es (TTs C sub L (WE E) (compTs n c es))
  As : ∀ (E : XK) (c : CI) (X : Cx), CtxOk C L E c k X → ∀ fs es, es.all notStar = true → PA X es (TAs C sub L (WE E) (compAs n c fs es))
  I : ∀ (E : XK) (c : CI) (X : Cx), CtxOk C L E c k X → ∀ tg tt e, (tt = true → ∃ es kk p, tg = .Tuple es kk p) → PI X tg e (TIv C sub L (WE E) (compI n c tt e))
  Cc : ∀ (E : XK) (c : CI) (X : Cx), CtxOk C L E c k X → ∀ f as pos, PE X (.Call f as [] pos) (TEv C sub L (WE E) (compC n c f as pos))
section
variable {C : Cal} {sub : Nat → Nat → Bool} {L : Lk} {E : XK} {c : CI} {k n : Nat} {X : Cx} {W : WX}
theorem len_es : ∀ (n : Nat) (c : CI) (es : List Expr), (compEs n c es).length ≤ es.length + 1
  | 0, c, es => by rw [compEs]; simp
  | n + 1, c, [] => by rw [compEs]; simp
  | n + 1, c, e :: es => by
    rw [compEs]
    have := len_es n c es
    simp only [List.length_cons]
    omega
theorem sound_0 : Sound C sub L k 0 where
  E := fun E c X ok e => by rw [compE]; exact pe_bad
  O := fun E c X ok e => by rw [compO]; exact pe_bad
  B := fun E c X ok op es pos => by rw [compB]; exact pe_bad
  Cmp := fun E c X ok a ops bs pos => by rw [compCmp]; exact ⟨pe_bad, pt_bad⟩
  T := fun E c X ok e => by rw [compT]; exact pt_bad
  BT := fun E c X ok op es pos => by rw [compBT]; exact pw_bad
  Es := fun E c X ok es h => by rw [compEs]; exact pa_bad
  P := fun E c X ok o => by rw [compP]; exact po_bad
  Ts := fun E c X ok es => by rw [compTs]; exact pts_bad
  As := fun E c X ok fs es h => by rw [compAs]; exact pas_bad
  I := fun E c X ok tg tt e h => by rw [compI]; exact pi_bad
  Cc := fun E c X ok f as pos => by rw [compC]; exact pe_bad
theorem step_O (S : Sound C sub L k n) (ok : CtxOk C L E c k X) (e : Expr) : PE X e (TEv C sub L (WE E) (compO (n + 1) c e)) := by
  unfold compO
  split
  · rename_i x p
    split
    · rename_i i h
      obtain ⟨a, b, d1, d2⟩ := rd_ok ok h
      exact (pe_var a b d1 d2).imp t_pk
    · exact S.E E c X ok _
  · exact S.E E c X ok _
theorem step_B (S : Sound C sub L k n) (ok : CtxOk C L E c k X) (op : BoolOp) (es : List Expr) (pos : Pos) : PE X (.BoolOp op es pos) (TEv C sub L (WE E) (compB (n + 1) c op es)) := by
  unfold compB
  split
  · exact pe_bad
  · exact pe_one (S.E E c X ok _)
  · split
    · exact (pe_and (S.E E c X ok _) (S.B E c X ok _ _ _)).imp t_and
    · exact (pe_or (S.E E c X ok _) (S.B E c X ok _ _ _)).imp t_or
theorem step_Cmp (S : Sound C sub L k n) (ok : CtxOk C L E c k X) (a : Expr) (ops : List CmpOp) (bs : List Expr) (pos : Pos) :
    PE X (.Compare a ops bs pos) (TEv C sub L (WE E) (compCmp (n + 1) c a ops bs)) ∧ PT X (.Compare a ops bs pos) (TTv C sub L (WE E) (.val (compCmp (n + 1) c a ops bs))) := by
  unfold compCmp
  split
  · rename_i o b
    split
    · rename_i hb
      obtain ⟨r, h1, h2⟩ := cmp_ok ok o
      refine ⟨(pe_cmpR h1 (S.O E c X ok a) (S.O E c X ok b) (noset_in hb)).imp (tOp_of h2), (pt_cmpR h1 (S.O E c X ok a) (S.O E c X ok b) (noset_in hb)).imp fun σ H Q h => ?_⟩
      have := ttv_bl (a := .op2 (cmpOf o) (compO n c a) (compO n c b)) (cmp_isCmp o) σ H Q h
      exact tOp_of h2 σ H _ this
    · exact ⟨pe_bad, pt_bad⟩
  · rename_i o o' b d
    split
    · rename_i hb
      simp only [Bool.and_eq_true] at hb
      obtain ⟨r, h1, h2⟩ := cmp_ok ok o
      obtain ⟨r', h1', h2'⟩ := cmp_ok ok o'
      refine ⟨(pe_chain h1 h1' (S.O E c X ok a) (S.O E c X ok b) (S.O E c X ok d) (noset_in (op := o') hb.2)).imp (t_chain h2 h2'), (pt_chain h1 h1' (S.O E c X ok a) (S.O E c X ok b) (S.O E c X ok d) (noset_in (op := o') hb.2)).imp fun σ H Q h => ?_⟩
      have := ttv_bl (a := .chain (cmpOf o) (cmpOf o') (compO n c a) (compO n c b) (compO n c d)) (cmp_isCmp o') σ H Q h
      exact t_chain h2 h2' σ H _ this
    · exact ⟨pe_bad, pt_bad⟩
  · exact ⟨pe_bad, pt_bad⟩
theorem step_T (S : Sound C sub L k n) (ok : CtxOk C L E c k X) (e : Expr) : PT X e (TTv C sub L (WE E) (compT (n + 1) c e)) := by
  unfold compT
  split
  · exact (pt_not (S.T E c X ok _)).imp ttv_not
  · exact (S.BT E c X ok _ _ _).pt
  · exact (S.Cmp E c X ok _ _ _ _).2
  · split
    · rename_i h
      refine (pt_truth (S.O E c X ok e) (plain_tru h)).imp ?_
      rw [ok.K]
      exact ttv_val
    · exact pt_bad
theorem step_BT (S : Sound C sub L k n) (ok : CtxOk C L E c k X) (op : BoolOp) (es : List Expr) (pos : Pos) : PW X (.BoolOp op es pos) (TTv C sub L (WE E) (compBT (n + 1) c op es)) := by
  unfold compBT
  split
  · exact pw_bad
  · cases op
    · exact pw_and1 (S.T E c X ok _)
    · exact pw_or1 (S.T E c X ok _)
  · split
    · refine ⟨fun wh pins s σ H Q I h => (pw_and (S.T E c X ok _) (S.BT E c X ok _ _ pos)).run wh pins s σ H Q I (ttv_and σ H Q h)⟩
    · refine ⟨fun wh pins s σ H Q I h => (pw_or (S.T E c X ok _) (S.BT E c X ok _ _ pos)).run wh pins s σ H Q I (ttv_or σ H Q h)⟩
theorem step_Es (S : Sound C sub L k n) (ok : CtxOk C L E c k X) (es : List Expr) (h : es.all notStar = true) : PA X es (TAv C sub L (WE E) (compEs (n + 1) c es)) := by
  unfold compEs
  split
  · exact pa_nil.imp t_anil
  · rename_i e r
    simp only [List.all_cons, Bool.and_eq_true] at h
    exact (pa_cons (S.E E c X ok e) (S.Es E c X ok r h.2) (star_cons h.1)).imp t_acons
theorem step_P (S : Sound C sub L k n) (ok : CtxOk C L E c k X) (o : Option Expr) : PO X o (TOv C sub L (WE E) (compP (n + 1) c o)) := by
  unfold compP
  split
  · exact po_none
  · exact po_some (S.O E c X ok _)
theorem step_Ts (S : Sound C sub L k n) (ok : CtxOk C L E c k X) (es : List Expr) : PTs X es (TTs C sub L (WE E) (compTs (n + 1) c es)) := by
  unfold compTs
  split
  · exact ⟨fun pins s σ H Q I h => pts_nil.run pins s σ H Q I (tts_nil σ H Q h)⟩
  · exact ⟨fun pins s σ H Q I h => (pts_one (S.T E c X ok _)).run pins s σ H Q I (tts_one σ H Q h)⟩
  · exact pts_bad
theorem step_As (S : Sound C sub L k n) (ok : CtxOk C L E c k X) (fs : List Bool) (es : List Expr) (h : es.all notStar = true) : PA X es (TAs C sub L (WE E) (compAs (n + 1) c fs es)) := by
  unfold compAs
  split
  · exact pa_nil.imp ta_nil
  · rename_i e r
    simp only [List.all_cons, Bool.and_eq_true] at h
    split
    · split
      · rename_i i hi
        obtain ⟨a, b, d1, d2⟩ := rd_ok ok hi
        exact (pa_cons (pe_var a b d1 d2) (S.As E c X ok _ r h.2) (star_cons h.1)).imp ta_cons
      · exact pas_bad
    · exact pas_bad
    · exact (pa_cons (S.E E c X ok e) (S.As E c X ok _ r h.2) (star_cons h.1)).imp ta_cons
    · exact (pa_cons (S.E E c X ok e) (S.As E c X ok _ r h.2) (star_cons h.1)).imp ta_cons
theorem pi_seqE (S : Sound C sub L k n) (ok : CtxOk C L E c k X) (tg e : Expr) : PI X tg e (TIv C sub L (WE E) (.seq (compE n c e))) := by
  have h := S.E E c X ok e
  refine PI.imp (PI.or (pi_list h) (pi_tup h)) ?_
  rw [ok.K]
  exact TIv.seq
theorem not_fn (ok : CtxOk C L E c k X) {x : Str} (h : x ∈ bltN) : X.mg x = none := ok.blt x h
theorem step_I (S : Sound C sub L k n) (ok : CtxOk C L E c k X) (tg : Expr) (tt : Bool) (e : Expr) (ht : tt = true → ∃ es kk p, tg = .Tuple es kk p) : PI X tg e (TIv C sub L (WE E) (compI (n + 1) c tt e)) := by
  unfold compI
  split
  · rename_i x p as pos
    split
    · rename_i a hg hf
      split
      · rename_i hx
        simp only [Bool.and_eq_true] at hx
        have := eqS_eq hx.1
        subst this
        exact PI.imp (pi_range1 (glb_ok ok hg) (not_fn ok (by decide)) (pa_cons (S.O E c X ok a) pa_nil (star_cons hx.2)) (star_cons hx.2)) TIv.rng1
      · split
        · rename_i hx
          simp only [Bool.and_eq_true] at hx
          have := eqS_eq hx.1.1
          subst this
          obtain ⟨es, kk, p', rfl⟩ := ht hx.2
          refine PI.imp (pi_enum (glb_ok ok hg) (not_fn ok (by decide)) (pa_cons (S.E E c X ok a) pa_nil (star_cons hx.1.2)) (star_cons hx.1.2)) ?_
          rw [ok.K]
          exact TIv.enum
        · exact pi_seqE S ok tg _
    · rename_i a b hg hf
      split
      · rename_i hx
        simp only [Bool.and_eq_true] at hx
        have := eqS_eq hx.1.1
        subst this
        exact PI.imp (pi_range2 (glb_ok ok hg) (not_fn ok (by decide)) (pa_cons (S.O E c X ok a) (pa_cons (S.O E c X ok b) pa_nil (star_cons hx.2)) (star_cons hx.1.2)) (by rw [star_cons hx.1.2, star_cons hx.2]; rfl) (by rw [star_cons hx.2]; rfl)) TIv.rng2
      · split
        · rename_i hx
          simp only [Bool.and_eq_true] at hx
          have := eqS_eq hx.1.1.1
          subst this
          obtain ⟨es, kk, p', rfl⟩ := ht hx.2
          refine PI.imp (RZ.pi_zipA (glb_ok ok hg) (not_fn ok (by decide)) (pa_cons (S.E E c X ok a) (pa_cons (S.E E c X ok b) pa_nil (star_cons hx.1.2)) (star_cons hx.1.1.2)) (star_cons hx.1.1.2) (star_any (by simp [hx.1.2]))) ?_
          rw [ok.K]
          exact TIv.zip
        · exact pi_seqE S ok tg _
    · exact pi_seqE S ok tg _
  · rename_i a m apos pos
    split
    · rename_i hx
      simp only [Bool.and_eq_true] at hx
      have := eqS_eq hx.1.1.1
      subst this
      obtain ⟨es, kk, p', rfl⟩ := ht hx.1.1.2
      refine PI.imp (pi_itF (S.E E c X ok a) ?_ hx.1.2) TIv.items
      have hc := hx.2
      unfold isCall at hc
      split at hc
      · rfl
      · cases hc
    · exact pi_seqE S ok tg _
  · exact pi_seqE S ok tg _
end
end Sb

set_option Elab.async false
set_option linter.all false
set_option maxRecDepth 100000
/-! Expressions: the text and the language, the rest. -/
namespace Sb
open PySem PySem.Spec PyProof.Rows L2
/-- what is still asked of single calls -/
structure Extra (C : Cal) (sub : Nat → Nat → Bool) (L : Lk) : Prop where
  exm : ∀ c h, sub c c = true → sub h h = true → PySem.W.exmOne L.K (.ref (L.ca c)) (.ref (L.ca h)) = some (sub c h)
  rev : ∀ (E : XK) (c : CI) (k : Nat) (X : Cx), CtxOk C L E c k X → ∀ (a : Expr) (ia : IE) (j : Nat) (p1 p2 p3 pos : Pos), PE X a (TEv C sub L (WE E) ia) → PE X (.Subscript a (.Slice none none (some (.UnaryOp .USub (.Constant (.int 1) j p1) p2)) p3) pos) (TEv C sub L (WE E) (.op1 .rev ia))
  zipl : ∀ (E : XK) (c : CI) (k : Nat) (X : Cx), CtxOk C L E c k X → ∀ (a b : Expr) (ia ib : IE) (p p' q q' : Pos), Gl X "list" → Gl X "zip" → notStar a = true → notStar b = true → PE X a (TEv C sub L (WE E) ia) → PE X b (TEv C sub L (WE E) ib) →
    PE X (.Call (.Name "list" p) [.Call (.Name "zip" p') [a, b] [] q] [] q') (TEv C sub L (WE E) (.op2 .zipl ia ib))
  sset : ∀ (E : XK) (c : CI) (k : Nat) (X : Cx), CtxOk C L E c k X → ∀ (a : Expr) (ia : IE) (p p' q q' : Pos), Gl X "sorted" → Gl X "set" → notStar a = true → PE X a (TEv C sub L (WE E) ia) →
    PE X (.Call (.Name "sorted" p) [.Call (.Name "set" p') [a] [] q] [] q') (TEv C sub L (WE E) (.op1 .sset ia))
  repr : ∀ (E : XK) (c : CI) (k : Nat) (X : Cx), CtxOk C L E c k X → ∃ r, CallR X (.builtin "repr") r ∧ Call1S L r .repr_
  isi : ∀ (E : XK) (c : CI) (k : Nat) (X : Cx), CtxOk C L E c k X → ∀ (a b : Expr) (ia : IE) (ts : List Ty) (p q : Pos), Gl X "isinstance" → notStar a = true → PE X a (TEv C sub L (WE E) ia) →
    (c.ty1 b = (match ts with | [t] => some t | _ => none) ∧ ts.length = 1 ∨ ∃ es kk p', b = .Tuple es kk p' ∧ c.tys es = some ts ∧ ts.length ≤ 10 ∧ 1 ≤ ts.length) → PE X (.Call (.Name "isinstance" p) [a, b] [] q) (TEv C sub L (WE E) (.op1 (.isi ts) ia))
section
variable {C : Cal} {sub : Nat → Nat → Bool} {L : Lk} {E : XK} {c : CI} {k n : Nat} {X : Cx} {W : WX}
theorem blt1_ok (Z : Extra C sub L) (ok : CtxOk C L E c k X) {x : Str} {o : Op1} {a : Expr} {ia : IE} {p pos : Pos} (h : blt1 x = some o) (hg : Gl X x) (ha : PE X a (TEv C sub L (WE E) ia)) (hs : notStar a = true) :
    PE X (.Call (.Name x p) [a] [] pos) (TEv C sub L (WE E) (.op1 o ia)) := by
  have hK := ok.K
  have st : starEach [a] X.env = (false, eval a X.env) :: starEach [] X.env := star_cons hs
  have pa := pa_cons ha pa_nil st
  unfold blt1 at h
  split at h
  · rename_i e; have e := eqS_eq e; subst e; cases h
    refine (pe_callB call_lenG hg (not_fn ok (by decide)) (by decide +kernel) pa (he := st) (hpl := rfl)).imp ?_
    rw [hK]; exact t_call1 c_len
  split at h
  · rename_i e; have e := eqS_eq e; subst e; cases h
    exact (pe_callTy call_int1 hg (not_fn ok (by decide)) (by decide +kernel) pa (he := st) (hpl := rfl)).imp (t_call1 c_int)
  split at h
  · rename_i e; have e := eqS_eq e; subst e; cases h
    exact (pe_callTy call_str_int hg (not_fn ok (by decide)) (by decide +kernel) pa (he := st) (hpl := rfl)).imp (t_call1 c_str)
  split at h
  · rename_i e; have e := eqS_eq e; subst e; cases h
    obtain ⟨r, h1, h2⟩ := Z.repr E c k X ok
    exact (pe_callB h1 hg (not_fn ok (by decide)) (by decide +kernel) pa (he := st) (hpl := rfl)).imp (t_call1 h2)
  split at h
  · rename_i e; have e := eqS_eq e; subst e; cases h
    refine (pe_callTy call_tuple_of hg (not_fn ok (by decide)) (by decide +kernel) pa (he := st) (hpl := rfl)).imp ?_
    rw [hK]; exact t_call1 c_tuple
  split at h
  · rename_i e; have e := eqS_eq e; subst e; cases h
    refine (pe_callB (cr_min ok.calm) hg (not_fn ok (by decide)) (by decide +kernel) pa (he := st) (hpl := rfl)).imp ?_
    rw [hK]; exact t_call1 c_min
  split at h
  · rename_i e; have e := eqS_eq e; subst e; cases h
    refine (pe_callB (cr_max ok.calm) hg (not_fn ok (by decide)) (by decide +kernel) pa (he := st) (hpl := rfl)).imp ?_
    rw [hK]; exact t_call1 c_max
  split at h
  · rename_i e; have e := eqS_eq e; subst e; cases h
    refine (pe_callB (cr_sum ok.calm) hg (not_fn ok (by decide)) (by decide +kernel) pa (he := st) (hpl := rfl)).imp ?_
    rw [hK]; exact t_call1 c_sum
  split at h
  · rename_i e; have e := eqS_eq e; subst e; cases h
    refine (pe_callB (cr_all ok.calm) hg (not_fn ok (by decide)) (by decide +kernel) pa (he := st) (hpl := rfl)).imp ?_
    rw [hK]; exact t_call1 c_all
  split at h
  · rename_i e; have e := eqS_eq e; subst e; cases h
    refine (pe_callB (cr_any ok.calm) hg (not_fn ok (by decide)) (by decide +kernel) pa (he := st) (hpl := rfl)).imp ?_
    rw [hK]; exact t_call1 c_any
  · cases h
theorem blt2_ok (ok : CtxOk C L E c k X) {x : Str} {o : Op2} {a b : Expr} {ia ib : IE} {p pos : Pos} (h : blt2 x = some o) (hg : Gl X x) (ha : PE X a (TEv C sub L (WE E) ia)) (hb : PE X b (TEv C sub L (WE E) ib)) (hs : notStar a = true) (hs2 : notStar b = true) :
    PE X (.Call (.Name x p) [a, b] [] pos) (TEv C sub L (WE E) (.op2 o ia ib)) := by
  have st : starEach [a, b] X.env = (false, eval a X.env) :: starEach [b] X.env := star_cons hs
  have pa := pa_cons ha (pa_cons hb pa_nil (star_cons hs2)) st
  have pl : (backTo pos (starEach [b] X.env)).any (·.1) = false := star_any (by simp [hs2])
  unfold blt2 at h
  split at h
  · rename_i e; have e := eqS_eq e; subst e; cases h
    exact (pe_callB (call_min2 ok.calm) hg (not_fn ok (by decide)) (by decide +kernel) pa (he := st) (hpl := pl)).imp (t_call2 c_min2)
  split at h
  · rename_i e; have e := eqS_eq e; subst e; cases h
    exact (pe_callB (call_max2 ok.calm) hg (not_fn ok (by decide)) (by decide +kernel) pa (he := st) (hpl := pl)).imp (t_call2 c_max2)
  · cases h
theorem call_list1 (S : Sound C sub L k n) (ok : CtxOk C L E c k X) {a : Expr} {p pos : Pos} (hg : Gl X "list") (hs : notStar a = true) : PE X (.Call (.Name "list" p) [a] [] pos) (TEv C sub L (WE E) (.op1 .list (compO n c a))) := by
  have st : starEach [a] X.env = (false, eval a X.env) :: starEach [] X.env := star_cons hs
  refine (pe_callTy call_list_of hg (not_fn ok (by decide)) (by decide +kernel) (pa_cons (S.O E c X ok a) pa_nil st) (he := st) (hpl := rfl)).imp ?_
  rw [ok.K]; exact t_call1 c_list
theorem call_sort1 (S : Sound C sub L k n) (ok : CtxOk C L E c k X) {a : Expr} {p pos : Pos} (hg : Gl X "sorted") (hs : notStar a = true) : PE X (.Call (.Name "sorted" p) [a] [] pos) (TEv C sub L (WE E) (.op1 .sorted (compO n c a))) := by
  have st : starEach [a] X.env = (false, eval a X.env) :: starEach [] X.env := star_cons hs
  refine (pe_callB call_sortG hg (not_fn ok (by decide)) (by decide +kernel) (pa_cons (S.O E c X ok a) pa_nil st) (he := st) (hpl := rfl)).imp ?_
  rw [ok.K]; exact t_call1 c_sorted
theorem noPar_eq {ps : Arguments} (h : noPar ps = true) : ps = ⟨[], [], none, [], [], none, []⟩ := by
  unfold noPar at h
  split at h
  · rfl
  · cases h
theorem words_of {ca : Nat → Addr} {c : Nat} {K : PySem.W.Frag} (hx : ∀ h, sub h h = true → PySem.W.exmOne K (.ref (ca c)) (.ref (ca h)) = some (sub c h)) {r : D} {k : Str → Prop} :
    ∀ {hs : List (Nat × Str)}, handle sub c (hs.map fun z => (z.1, D.str z.2)) = some r → (∀ x, r = .str x → k x) → wordOf K (hs.map fun z => (ca z.1, z.2)) (.ref (ca c)) k
  | [], h, _ => by simp [handle] at h
  | z :: hs, h, hk => by
    simp only [List.map_cons, handle] at h
    split at h
    · rename_i hh
      refine ⟨sub c z.1, hx z.1 hh, ?_⟩
      cases q : sub c z.1 with
      | true =>
        rw [q, if_pos rfl] at h
        rw [if_pos rfl]
        exact hk z.2 (Option.some.inj h).symm
      | false =>
        rw [q, if_neg (by simp)] at h
        rw [if_neg (by simp)]
        exact words_of hx h hk
    · cases h
theorem pr_ext {O : AP} {H H1 : Hp} (e : LamX.ExtN H H1) (d : ∀ b, H1 b = none → H b = none) : Pr O H H1 :=
  ⟨fun a o h n _ => e a o h n, fun a xs h => e a _ h (fun ps => by intro z; cases z), fun a o u h => e a _ h (fun ps => by intro z; cases z), d⟩
theorem EnvRep.grown {fl : List Bool} {A : AP} {H H1 : Hp} {σ : L2.St} {env : Env} {os : OS} (r : EnvRep L fl A H σ env os) (e : LamX.ExtN H H1) (d : ∀ b, H1 b = none → H b = none) (t : LamX.Tabs L.T H1) : EnvRep L fl A H1 σ env os :=
  ⟨r.le, r.lo, r.fl, fun i s hs => by
    obtain ⟨v, o, h1, h2, h3⟩ := r.rep i s hs
    exact ⟨v, o, h1, h2, h3.keep (O := fun _ => False) (pr_ext e d) (fun _ z => z.elim) fun _ _ z => z⟩, r.uq, r.dj, fun a ha z => r.dm a ha (d a z), t⟩
theorem t_lam (Z : Extra C sub L) {hs : List (Nat × Str)} {x : Str} {j : Nat} {b : IE} {E : XK} : ∀ σ H Q, TEv C sub L (WE E) (.lam j (hs.map fun z => (z.1, .str z.2)) (.str x) b) σ H Q →
    tLamD L.T (TTword L.K (hs.map fun z => (L.ca z.1, z.2)) x) (fun E' => TEv C sub L (WE E') b) σ H Q := fun σ H Q ⟨fl, A, env, os, r, h⟩ => by
  rw [evE] at h
  refine ⟨r.tab, fun H1 e d t => ⟨fl, A, env, os, r.grown e d t, ?_⟩⟩
  have pr : Pr (Own os) H H1 := pr_ext e d
  have fin : ∀ (x : Str) (env' : Env) (H' : Hp) (os' : OS), Sub os' os → Pr (Own os) H1 H' → EnvRep L fl A H' σ env' os' → PV L fl A H σ os (.shr, .str x) env' (.str x) H' os' := fun x env' H' os' s1 p1 r1 =>
    ⟨s1, pr.trans p1 fun _ z => .inl z, r1, by simp only [Rep]⟩
  cases q : evE C sub b env with
  | bad => rw [q] at h; exact h.elim
  | ok y e1 =>
    rw [q] at h
    intro v H' os' p
    exact h (.str x) H' os' (fin x e1 H' os' p.1 p.2.1 (p.env.less (by
      intro a ha
      cases y.1 with
      | fr => exact .inr ha
      | shr => exact ha
      | pk i => exact ha)))
  | ex c e1 =>
    rw [q] at h
    simp only at h
    intro H' os' p
    split at h
    · rename_i hc
      cases q2 : handle sub c (hs.map fun z => (z.1, D.str z.2)) with
      | none => rw [q2] at h; exact h.elim
      | some rr =>
        rw [q2] at h
        refine words_of (fun h0 hh => Z.exm c h0 hc hh) q2 fun y ey => ?_
        subst ey
        exact h (.str y) H' os' (fin y e1 H' os' p.1 p.2.1 p.2.2)
    · exact h.elim
theorem call_lam (Z : Extra C sub L) (Sl : ∀ k, Sound C sub L k n) (ok : CtxOk C L E c k X) {x : Str} {as : List Expr} {p pos : Pos} {w : List (Nat × Str) × Str} {scope : Scope} {body : Expr} (h : c.lamOf x as = some (w, scope, body)) (hg : Gl X x) (hdb : (x == ("__debug__" : Str)) = false) :
    PE X (.Call (.Name x p) as [] pos) (TEv C sub L (WE E) (.lam 0 (w.1.map fun z => (z.1, .str z.2)) (.str w.2) (compE n (c.lmd scope) body))) := by
  unfold CI.lamOf at h
  split at h
  case h_2 => cases h
  rename_i ps body0 scope0 lpos
  split at h
  case h_2 => cases h
  rename_i w0 hw
  split at h
  case isFalse => cases h
  rename_i hc
  simp only [Bool.and_eq_true] at hc
  obtain ⟨⟨hl, hs⟩, hp⟩ := hc
  cases h
  have hp := noPar_eq hp
  subst hp
  obtain ⟨k', rfl⟩ : ∃ k', k = k' + 2 := ⟨k - 2, by have := ok.lv hl; omega⟩
  obtain ⟨g, pg, h, hs', sg, dV, kV, doc, pm, cdv, ct, oc, an, od, osl, Ng, a, nn, i, j, p1, p2, p3, p4, p5, p6, m1, m2, m3, m4, m5, m6, m7, m8, m9, m10, m11, m12, m13⟩ := ok.wd x w hw
  obtain ⟨cP, P, t1, t2, t3, t4⟩ := ok.tb hl
  have LS : LamX.LamS X.env.scope scope := by rw [ok.sc]; exact LamX.lamS_by hs
  have start0 : ∀ f : Addr, (L2.start Ng [V.ref f])[0]? = some (some (V.ref f)) := fun f => by
    cases Ng with
    | nil => simp at m7
    | cons y ys => rfl
  have gv := word_gives (X := X) (Ng := Ng) (x := x) (a := a) (n := nn) (q := X.env.qual ++ "<lambda>") (d := w.2) (sg := sg) (g := g) (cdg := cdv) (h := h) (hs := hs') (zs := w.1.map fun z => (L.ca z.1, z.2)) (i := i) (j := j) (p1 := p1) (p2 := p2) (p3 := p3) (p4 := p4) (p5 := p5) (p6 := p6) m9 m6.nd m10 m11 start0 (fun _ => rfl)
  refine (pe_handing (T := L.T) (k := k') (t := fun E' => TEv C sub L (WE E') (compE n (c.lmd scope) body)) hg m1 m2 m3 m4 m5 m6 m7 m8 gv t2 t1 t3 t4 ok.room LS rfl (fun _ _ _ _ _ => rfl) (fun A outer s H E' f c' rm hgd => (Sl k').E E' (c.lmd scope) _ (ok.lmd hl rm hgd) body) hdb m12 m13).imp ?_
  rw [ok.K]
  exact t_lam Z
theorem step_C (Z : Extra C sub L) (Sl : ∀ k, Sound C sub L k n) (S : Sound C sub L k n) (ok : CtxOk C L E c k X) (f : Expr) (as : List Expr) (pos : Pos) : PE X (.Call f as [] pos) (TEv C sub L (WE E) (compC (n + 1) c f as pos)) := by
  unfold compC
  split
  · rename_i x p
    split
    case isFalse => exact pe_bad
    rename_i hx
    simp only [Bool.and_eq_true, Bool.not_eq_true'] at hx
    obtain ⟨⟨hg, hst⟩, hdb⟩ := hx
    have hgl := glb_ok ok hg
    split
    · rename_i w scope body hlm
      exact call_lam Z Sl ok hlm hgl hdb
    rename_i hnl
    clear hnl
    split
    · rename_i kf hf
      obtain ⟨a, fd, ps, j, m1, m2, m3, F, hj⟩ := ok.fn x kf hf
      have F := F.mono (k := k) (by omega)
      cases as with
      | nil =>
        refine (pe_callG0 F ok.room ok.gu hgl m1 m2 m3 ok.tk hdb).imp fun σ H Q h => ?_
        have h2 := t_call σ H Q h
        have PA0 := S.As E c X ok (c.g.io kf) [] hst
        cases n with
        | zero =>
          rw [compAs] at h2
          exact (t_bad σ H _ (ta_cons σ H _ h2)).elim
        | succ m =>
          rw [compAs] at h2
          exact ta_nil σ H _ h2
      | cons e es =>
        have hst2 := hst
        simp only [List.all_cons, Bool.and_eq_true] at hst2
        exact (pe_callG F ok.room ok.gu hgl m1 m2 m3 ok.tk (S.As E c X ok (c.g.io kf) (e :: es) hst) hdb (star_cons hst2.1) (star_any hst2.2)).imp t_call
    · split
      · rename_i a
        simp only [List.all_cons, Bool.and_eq_true] at hst
        split
        · rename_i e; have e := eqS_eq e; subst e
          split
          · rename_i y p' b q
            split
            · rename_i hy
              simp only [Bool.and_eq_true] at hy
              have e := eqS_eq hy.1.2; subst e
              refine (pe_listRg ok.calm hgl (not_fn ok (by decide)) (prg_1 (glb_ok ok hy.1.1) (not_fn ok (by decide)) (S.O E c X ok b) (star_cons hy.2)) rfl).imp c_rng1
            · exact call_list1 S ok hgl hst.1
          · rename_i y p' b d q
            split
            · rename_i hy
              simp only [Bool.and_eq_true] at hy
              have e := eqS_eq hy.1.1.2; subst e
              refine (pe_listRg ok.calm hgl (not_fn ok (by decide)) (prg_2 (glb_ok ok hy.1.1.1) (not_fn ok (by decide)) (S.O E c X ok b) (S.O E c X ok d) (star_cons hy.1.2) (star_cons hy.2) (star_any (by simp [hy.2]))) rfl).imp c_rng2
            · split
              · rename_i hy
                simp only [Bool.and_eq_true] at hy
                have e := eqS_eq hy.1.1.2; subst e
                exact Z.zipl E c k X ok b d _ _ _ _ _ _ hgl (glb_ok ok hy.1.1.1) hy.1.2 hy.2 (S.O E c X ok b) (S.O E c X ok d)
              · exact call_list1 S ok hgl hst.1
          · exact call_list1 S ok hgl hst.1
        · split
          · rename_i e; have e := eqS_eq e; subst e
            split
            · rename_i y p' b q
              split
              · rename_i hy
                simp only [Bool.and_eq_true] at hy
                have e := eqS_eq hy.1.2; subst e
                exact Z.sset E c k X ok b _ _ _ _ _ hgl (glb_ok ok hy.1.1) hy.2 (S.O E c X ok b)
              · exact call_sort1 S ok hgl hst.1
            · exact call_sort1 S ok hgl hst.1
          · split
            · rename_i o ho
              exact blt1_ok Z ok ho hgl (S.O E c X ok a) hst.1
            · exact pe_bad
      · rename_i a b
        simp only [List.all_cons, Bool.and_eq_true] at hst
        split
        · rename_i e; have e := eqS_eq e; subst e
          split
          · split
            · rename_i ts hts
              split
              · rename_i hl
                simp only [Bool.and_eq_true, decide_eq_true_eq] at hl
                exact Z.isi E c k X ok a _ _ _ _ _ hgl hst.1 (S.O E c X ok a) (.inr ⟨_, _, _, rfl, hts, hl.1, hl.2⟩)
              · exact pe_bad
            · exact pe_bad
          · split
            · rename_i t ht
              exact Z.isi E c k X ok a b _ [t] _ _ hgl hst.1 (S.O E c X ok a) (.inl ⟨ht, rfl⟩)
            · exact pe_bad
        · split
          · rename_i o ho
            exact blt2_ok ok ho hgl (S.O E c X ok a) (S.O E c X ok b) hst.1 hst.2.1
          · exact pe_bad
      · exact pe_bad
  · rename_i y p m apos
    split
    · rename_i i hi
      obtain ⟨v1, v2, d1, d2⟩ := rd_ok ok hi
      split
      · rename_i hm
        simp only [Bool.and_eq_true] at hm
        have e := eqS_eq hm.1.1; subst e
        split
        · refine (pe_bm0 PySem.F.plainAttrs_list PySem.F.slot_list_pop PySem.F.type_list_pop mt_pop (pe_var v1 v2 d1 d2) rfl hm.1.2).imp ?_
          rw [ok.K]; exact t_pop
        · rename_i kx
          have hs := hm.2
          simp only [List.all_cons, Bool.and_eq_true] at hs
          have st : starEach [kx] X.env = (false, eval kx X.env) :: starEach [] X.env := star_cons hs.1
          refine (pe_bm PySem.F.plainAttrs_list PySem.F.slot_list_pop PySem.F.type_list_pop mt_popAt (pe_var v1 v2 d1 d2) (pa_cons (S.O E c X ok kx) pa_nil st) rfl (by rw [st]; rfl) hm.1.2 st rfl).imp ?_
          rw [ok.K]; exact t_popAt
        · exact pe_bad
      · exact pe_bad
    · exact pe_bad
  · exact pe_bad
theorem t_d1 {k v : IE} : ∀ σ H Q, TEv C sub L W (.d1 k v) σ H Q → tDisp [(TEv C sub L W k, TEv C sub L W v)] σ H Q := fun σ H Q ⟨fl, A, env, os, r, h⟩ => by
  rw [evE] at h
  intro p hp
  have r0 : EnvRep L fl (nA .fr (.ref p) A) (upd H p (.dK [])) σ env os := r.avoid (fun a z => z.elim (fun z => by cases z; exact .inr hp) .inl) (fun a z => z.elim (fun z => by cases z; rw [upd_same]; simp) fun z q => r.dm a z ((Ex.new hp).free q)) (Ex.new hp)
  have st0 : Stp A H os (nA .fr (.ref p) A) (upd H p (.dK [])) os := ⟨Sub.refl _, (Ex.new hp).pr, fun a z => .inr z, fun a z => z.elim (fun z => by cases z; exact .inr hp) .inl⟩
  have hAp : (nA .fr (.ref p) A) p := .inl rfl
  -- the wish, kept as it is
  have key : ∀ (x y : KD) (d1 d2 : D) (e1 e2 : Env) (vx vy : V) (H2 : Hp) (os2 : OS), evE C sub k env = .ok x e1 → evE C sub v e1 = .ok y e2 → emb x = some d1 → emb y = some d2 →
      Stp A H os (nA .fr (.ref p) A) H2 os2 → EnvRep L fl (nA .fr (.ref p) A) H2 σ e2 os2 → H2 p = some (.dK []) → Rep L (Av (nA .fr (.ref p) A) os2) H2 d1 vx → Rep L (Av (nA .fr (.ref p) A) os2) H2 d2 vy →
      H2 p = some (.dK []) ∧ ∃ kvs : List (Key × V), [(vx, vy)] = kvs.map (fun kv => (kV kv.1, kv.2)) ∧ kvs.length ≤ 15 ∧ Q (.ref p) (upd H2 p (.dK (mergeK [] kvs))) := by
    intro x y d1 d2 e1 e2 vx vy H2 os2 q1 q2 m1 m2 st r2 hp2 rx ry
    rw [q1] at h
    simp only [Sb.R.bnd] at h
    rw [q2] at h
    simp only [m1, m2] at h
    cases d1 <;> try exact h.elim
    rename_i i
    have w : ∀ v H' os', PV L fl A H σ os (.fr, .dct [.int i] [d2]) e2 v H' os' → Q v H' := h
    have ex : vx = V.int i := by simpa only [Rep] using rx
    refine ⟨hp2, [(Sum.inl i, vy)], by rw [ex]; rfl, by simp, ?_⟩
    have cp : Chg H2 p := chg_dK hp2
    have em : mergeK [] [((Sum.inl i : Key), vy)] = [(Sum.inl i, vy)] := rfl
    rw [em]
    refine w (.ref p) _ os2 ⟨st.sub, (st.over hp cp).pr, r2.over hAp cp, p, rfl, hp, [(Sum.inl i, vy)], upd_same, by simp only [keysD]; exact ⟨trivial, trivial⟩, by simp, ?_⟩
    have : Reps L (Av (nA .fr (.ref p) A) os2) H2 [d2] [vy] := .one ry
    exact this.upd (.inl hAp) cp
  show TEv C sub L W k σ (upd H p (.dK [])) fun x H1 => TEv C sub L W v σ H1 fun y H2 => H2 p = some (.dK []) ∧ ∃ kvs : List (Key × V), [(x, y)] = kvs.map (fun kv => (kV kv.1, kv.2)) ∧ kvs.length ≤ 15 ∧ Q (.ref p) (upd H2 p (.dK (mergeK [] kvs)))
  refine ⟨fl, _, env, os, r0, ?_⟩
  cases q1 : evE C sub k env with
  | bad => rw [q1] at h; exact h.elim
  | ex c e1 => rw [q1] at h; exact fun H1 os1 px => h H1 os1 (px.shf st0)
  | ok x e1 =>
    intro vx H1 os1 px
    cases q2 : evE C sub v e1 with
    | bad => rw [q1] at h; simp only [Sb.R.bnd] at h; rw [q2] at h; exact h.elim
    | ex c e2 =>
      have stx : Stp (nA .fr (.ref p) A) (upd H p (.dK [])) os (nA .fr (.ref p) A) H1 os1 := ⟨px.1, px.2.1, fun _ z => z, fun _ z => .inl z⟩
      refine ⟨fl, _, e1, os1, px.env.less px.stp.inc, ?_⟩
      rw [q2]
      rw [q1] at h
      simp only [Sb.R.bnd] at h
      rw [q2] at h
      exact fun H2 os2 py => h H2 os2 (py.shf (st0.trans stx))
    | ok y e2 =>
      cases m1 : emb x with
      | none => rw [q1] at h; simp only [Sb.R.bnd] at h; rw [q2] at h; simp only [m1] at h; exact h.elim
      | some d1 => cases m2 : emb y with
        | none => rw [q1] at h; simp only [Sb.R.bnd] at h; rw [q2] at h; simp only [m1, m2] at h; cases d1 <;> exact h.elim
        | some d2 =>
          have p1 := px.emb r0.dm m1
          refine ⟨fl, _, e1, os1, p1.env, ?_⟩
          rw [q2]
          intro vy H2 os2 py
          have p2 := py.emb p1.env.dm m2
          have stt := (st0.trans p1.stp).trans p2.stp
          have hp2 : H2 p = some (.dK []) := (p1.stp.trans p2.stp).pr.keep p _ upd_same (fun ps => by intro z; cases z) (r0.dj p hAp)
          exact key x y d1 d2 e1 e2 vx vy H2 os2 q1 q2 m1 m2 stt p2.env hp2 (p2.stp.rep (B := fun _ => False) p1.2.2.2) p2.2.2.2
theorem step_E (Z : Extra C sub L) (S : Sound C sub L k n) (ok : CtxOk C L E c k X) (e : Expr) : PE X e (TEv C sub L (WE E) (compE (n + 1) c e)) := by
  unfold compE
  split
  · split
    · exact pe_non.imp (t_cst fun B H => by simp only [Rep])
    · exact pe_bl.imp (t_cst fun B H => rep_bl)
    · exact pe_int.imp (t_cst fun B H => rep_int)
    · exact pe_str.imp (t_cst fun B H => rep_str)
    · exact pe_bad
  · rename_i x p
    split
    · rename_i i h
      obtain ⟨a, b, d1, d2⟩ := rd_ok ok h
      exact (pe_var a b d1 d2).imp t_var
    · split
      · rename_i hg
        split
        · rename_i d hd
          obtain ⟨v, u, m, r, rp⟩ := ok.cst x d hd
          simp only [Bool.and_eq_true, Bool.not_eq_true'] at hg
          exact (pe_glob (glb_ok ok hg.1) m r hg.2).imp (t_cst rp)
        · exact pe_bad
      · exact pe_bad
  · split
    · rename_i o ho
      obtain ⟨r, h1, h2⟩ := bin_ok ok ho
      exact (pe_op h1 (S.O E c X ok _) (S.O E c X ok _)).imp (tOp_of h2)
    · exact pe_bad
  · split
    · exact (pe_not (S.E E c X ok _)).imp fun σ H Q h => tUn_of u_not σ H Q h
    · exact (pe_un un_neg (S.O E c X ok _)).imp (tUn_of u_neg)
    · exact pe_bad
  · exact S.B E c X ok _ _ _
  · exact (S.Cmp E c X ok _ _ _ _).1
  · exact (pe_ifExp (S.T E c X ok _) (S.E E c X ok _) (S.E E c X ok _)).imp t_ite
  · split
    · rename_i h
      simp only [Bool.and_eq_true, decide_eq_true_eq] at h
      exact (pe_tup (S.Es E c X ok _ h.1)).imp (t_tup (Nat.le_trans (len_es n c _) (by have : lim = 100000 := rfl; omega)))
    · exact pe_bad
  · split
    · rename_i h
      simp only [Bool.and_eq_true, decide_eq_true_eq] at h
      exact (pe_lst (S.Es E c X ok _ h.1)).imp (t_lst (Nat.le_trans (len_es n c _) (by have : lim = 100000 := rfl; omega)))
    · exact pe_bad
  · split
    · exact pe_dnewK.imp t_dnil
    · exact (pe_disp (pps_cons (S.E E c X ok _) (S.E E c X ok _) pps_nil) rfl rfl (by simp) (by simp)).imp t_d1
    · exact pe_bad
  · split
    · refine (pe_slice sl_any (S.O E c X ok _) (S.P E c X ok _) (S.P E c X ok _)).imp ?_
      rw [ok.K]; exact t_sl
    · exact Z.rev E c k X ok _ _ _ _ _ _ _ (S.O E c X ok _)
    · exact pe_bad
    · rename_i s pos s2 h1 h2 h3
      have hs : notSlice s = true := by
        cases s <;> first | rfl | exact (h3 _ _ _ _ rfl).elim
      refine (pe_ix (ix_any (by have := units65 ok; omega)) (S.O E c X ok _) (S.O E c X ok _) (plain_ix hs)).imp ?_
      rw [ok.K]; exact tOp_of s_idx
  · split
    · split
      · rename_i tg htg
        split
        · rename_i h
          simp only [Bool.and_eq_true, List.all_eq_true, decide_eq_true_eq] at h
          refine (pe_lc ok.calm (by rw [ok.N]; exact ok.nd) (S.I E c X ok _ _ _ tg_tup) (own_ix ok h.1.2) (fun s H cn cl fp => tg_ok (ok.blk s H _ cn cl fp) htg) (fun s H cn cl fp => S.Ts _ _ _ (ok.blk s H _ cn cl fp) _)
            (fun s H cn cl fp => S.E _ _ _ (ok.blk s H _ cn cl fp) _) (noset_fold h.1.1)).imp ?_
          exact t_lc h.2
        · exact pe_bad
      · exact pe_bad
    · exact pe_bad
  · split
    · split
      · rename_i tg htg
        split
        · rename_i h
          simp only [Bool.and_eq_true, List.all_eq_true, decide_eq_true_eq] at h
          refine (pe_dc ok.calm (by rw [ok.N]; exact ok.nd) (S.I E c X ok _ _ _ tg_tup) (own_ix ok h.1.2) (fun s H cn cl fp => tg_ok (ok.blk s H _ cn cl fp) htg) (fun s H cn cl fp => ⟨fun pins s σ H Q I h => pts_nil.run pins s σ H Q I (tts_nil (C := C) (sub := sub) (L := L) (W := WF) σ H Q h)⟩)
            (fun s H cn cl fp => S.E _ _ _ (ok.blk s H _ cn cl fp) _) (fun s H cn cl fp => S.E _ _ _ (ok.blk s H _ cn cl fp) _) (noset_fold h.1.1)).imp ?_
          exact t_dc h.2
        · exact pe_bad
      · exact pe_bad
    · exact pe_bad
  · split
    · exact S.Cc E c X ok _ _ _
    · exact pe_bad
  · exact pe_bad
theorem sound_s (Z : Extra C sub L) (Sl : ∀ k, Sound C sub L k n) (S : Sound C sub L k n) : Sound C sub L k (n + 1) where
  E := fun E c X ok e => step_E Z S ok e
  O := fun E c X ok e => step_O S ok e
  B := fun E c X ok op es pos => step_B S ok op es pos
  Cmp := fun E c X ok a ops bs pos => step_Cmp S ok a ops bs pos
  T := fun E c X ok e => step_T S ok e
  BT := fun E c X ok op es pos => step_BT S ok op es pos
  Es := fun E c X ok es h => step_Es S ok es h
  P := fun E c X ok o => step_P S ok o
  Ts := fun E c X ok es => step_Ts S ok es
  As := fun E c X ok fs es h => step_As S ok fs es h
  I := fun E c X ok tg tt e h => step_I S ok tg tt e h
  Cc := fun E c X ok f as pos => step_C Z Sl S ok f as pos
theorem sound_all (Z : Extra C sub L) : ∀ n k, Sound C sub L k n
  | 0, _ => sound_0
  | n + 1, k => sound_s Z (sound_all Z n) (sound_all Z n k)
theorem sound (Z : Extra C sub L) (n : Nat) : Sound C sub L k n := sound_all Z n k
end
end Sb

set_option Elab.async false
set_option linter.all false
set_option maxRecDepth 100000
/-! Statements: the text and the language. -/
namespace Sb
open PySem PySem.Spec PyProof.Rows L2
def isLoc (c : CI) (x : Str) : Bool := match c.sc.names.lookup x with
  | some .local => true
  | _ => false
def isFn (s : Scope) : Bool := match s.kind with
  | .function => true
  | _ => false
/-- whether a comprehension's store is exchanged -/
def swapB (c : CI) (x : Str) (px : Pos) (scope : Scope) (vp : Pos) : Bool := isLoc c x && (px.line == vp.line) && !(scope.names.any fun (n, k) => n == x && (k == .local || k == .cell))
def setOk (c : CI) (x : Str) (px : Pos) : Expr → Bool
  | .ListComp _ _ _ _ => isFn c.sc
  | .DictComp _ _ _ scope vp => isFn c.sc && !swapB c x px scope vp
  | .SetComp _ _ _ _ => false
  | _ => true
def par2 (c : CI) (x y : Str) (px py : Pos) (a b : Expr) : Bool :=
  isFn c.sc && isLoc c x && isLoc c y && (px.line == py.line) && !eqS x y && notStar a && notStar b && !([a, b].all (foldedForSure 8)) && !([a, b].all (constantsAlone 8))
/-- one of the two is captured: the pair is laid, then unpacked -/
def celP (c : CI) (x y : Str) : Bool := isFn c.sc && (!isLoc c x || !isLoc c y)
def par3 (c : CI) (x y z : Str) (px py pz : Pos) (a b d : Expr) : Bool :=
  isFn c.sc && isLoc c x && isLoc c y && isLoc c z && (px.line == py.line) && (px.line == pz.line) && !eqS x y && !eqS x z && !eqS y z && notStar a && notStar b && notStar d && !([a, b, d].all (foldedForSure 8)) && !([a, b, d].all (constantsAlone 8))
mutual
def compS : Nat → CI → Stmt → IS
  | 0, _, _ => .bad
  | n + 1, c, st => match st with
    | .Assign [t] v pos => match t with
      | .Name x px => match c.wr x with
        | some i => if setOk c x px v then .asg i (compE n c v) else .bad
        | none => .bad
      | .Tuple ts _ _ => compPar n c ts v
      | .Subscript (.Name x _) i _ => match c.rd x with
        | some k => if notSlice i && notComp v then .seti k (compO n c i) (compE n c v) else .bad
        | none => .bad
      | _ => .bad
    | .AugAssign (.Name x _) .Add v _ => match c.wr x with
      | some i => .aug i (compO n c v)
      | none => .bad
    | .For t it b [] _ => match c.tg t with
      | some tg => if notSet it then .for_ (compI n c (isTup2 t) it) tg (compSs n c b) else .bad
      | none => .bad
    | .While t b [] _ => .whl (compT n c t) (compSs n c b)
    | .If t a b _ => .ifs (compT n c t) (compSs n c a) (compSs n c b)
    | .Return o _ => match o with
      | none => .ret (.cst .non)
      | some (.Name x _) => match c.rd x with
        | some i => .retV i
        | none => .bad
      | some e => .ret (compE n c e)
    | .Raise (some (.Call (.Name x _) [.Constant (.str _) _ _] [] _)) none _ => match c.g.exc.lookup x with
      | some k => if c.glb x && !eqS x "__debug__" then .rse k else .bad
      | none => .bad
    | .Expr e pos => match e with
      | .Constant (.str _) _ _ => .pas
      | .Call (.Attribute (.Name x _) m apos) [a] [] cpos => if eqS m "append" then match c.rd x with
        | some i => if (apos.endLine == cpos.line) && notStar a then .app i (compE n c a) else .bad
        | none => .bad
        else .exp (compE n c e)
      | e => if notComp e then .exp (compE n c e) else .bad
    | .Pass _ => .pas
    | _ => .bad
def compPar : Nat → CI → List Expr → Expr → IS
  | 0, _, _, _ => .bad
  | n + 1, c, ts, v => match ts, v with
    | [.Name x px, .Name y py], .Tuple [a, b] _ _ => if par2 c x y px py a b then match c.ix x, c.ix y with
      | some i, some j => .par [i, j] [compE n c a, compE n c b]
      | _, _ => .bad
      else if celP c x y && notStar a && notStar b then match c.wr x, c.wr y with
        | some i, some j => .par [i, j] [compE n c a, compE n c b]
        | _, _ => .bad
      else .bad
    | [.Name x px, .Name y py, .Name z pz], .Tuple [a, b, d] _ _ => if par3 c x y z px py pz a b d then match c.ix x, c.ix y, c.ix z with
      | some i, some j, some l => .par [i, j, l] [compE n c a, compE n c b, compE n c d]
      | _, _, _ => .bad
      else .bad
    | ts, v => if notComp v && !isTup2 v then match c.tgs ts with
      | some is => .asgN is (compE n c v)
      | none => .bad
      else .bad
def compSs : Nat → CI → List Stmt → List IS
  | 0, _, _ => [.bad]
  | n + 1, c, ss => match ss with
    | [] => []
    | s :: r => compS n c s :: compSs n c r
end
structure CtxOkS (C : Cal) (L : Lk) (E : XK) (c : CI) (k : Nat) (X : Cx) : Prop where
  ok : CtxOk C L E c k X
  po : PassesOwn (model X.prog X.w) X.A X.env X.xe
  exc : ∀ x i, c.g.exc.lookup x = some i → ∃ bmB B newId initId, ExcBaseFacts B newId initId bmB ∧ PySem.W.excIn X.K (L.ca i) bmB newId = true ∧ X.mg x = some (.ref (L.ca i)) ∧ PySem.W.keepIn X.K (.ref (L.ca i)) = true ∧ Raises X (.ref (L.ca i))
structure SoundS (C : Cal) (sub : Nat → Nat → Bool) (wf : Nat) (L : Lk) (k : Nat) (n : Nat) : Prop where
  S : ∀ (E : XK) (c : CI) (X : Cx), CtxOkS C L E c k X → ∀ s, PS X s (TSv C sub wf L (WE E) (compS n c s))
  P : ∀ (E : XK) (c : CI) (X : Cx), CtxOkS C L E c k X → ∀ ts kt pt v pos, PS X (.Assign [.Tuple ts kt pt] v pos) (TSv C sub wf L (WE E) (compPar n c ts v))
  Ss : ∀ (E : XK) (c : CI) (X : Cx), CtxOkS C L E c k X → ∀ s, PSs X s (TSSv C sub wf L (WE E) (compSs n c s))
section
variable {C : Cal} {sub : Nat → Nat → Bool} {wf : Nat} {L : Lk} {E : XK} {c : CI} {k n : Nat} {X : Cx} {W : WX}
theorem ts_bad : ∀ D σ H, ¬ TSv C sub wf L W .bad D σ H := fun D σ H ⟨_, _, _, _, _, h⟩ => by rw [evS] at h; exact h
theorem ps_bad {s : Stmt} : PS X s (TSv C sub wf L W .bad) := ⟨fun pins s σ H D I h => (ts_bad D σ H h).elim⟩
theorem pss_bad {s : List Stmt} : PSs X s (TSSv C sub wf L W [.bad]) := ⟨fun pins s σ H D I h => (ts_bad _ σ H (ss_cons D σ H h)).elim⟩
theorem no_swap {v : Expr} {t : Option Expr} {l : Nat} {env : PySem.Env} (h : notComp v = true) : swapsWith v t l env = pure false := by
  cases v <;> first | rfl | (cases h)
theorem no_swap1 {v t : Expr} {l : Nat} {env : PySem.Env} (h : notComp v = true) : swapsWithSole [t] v l env = pure false := by
  cases v <;> first | rfl | (cases h)
theorem loc_ok (ok : CtxOk C L E c k X) {x : Str} (h : isLoc c x = true) : X.env.scope.names.lookup x = some .local := by
  unfold isLoc at h
  rw [← ok.sc] at h
  split at h
  · assumption
  · cases h
theorem fn_ok (ok : CtxOk C L E c k X) (h : isFn c.sc = true) : X.env.scope.kind = .function := by
  unfold isFn at h
  rw [← ok.sc] at h
  split at h
  · assumption
  · cases h
theorem swap_comp {el : Expr} {gs : List Comprehension} {scope : Scope} {vp px : Pos} {x : Str} {l : Nat} (ok : CtxOk C L E c k X) (hf : isFn c.sc = true) :
    swapsWith (.ListComp el gs scope vp) (some (.Name x px)) l X.env = pure (swapB c x px scope vp) := by
  have hk := fn_ok ok hf
  have hb : X.env.blockKind = .function := by unfold Env.blockKind; rw [hk]; rfl
  have hl : (X.env.kindOf x == some .local) = isLoc c x := by
    unfold Env.kindOf isLoc
    rw [ok.sc]
    cases c.sc.names.lookup x with
    | none => rfl
    | some kk => cases kk <;> rfl
  show (pure (X.env.blockKind == .function && X.env.kindOf x == some .local && px.line == vp.line && !(scope.names.any fun (n, k) => n == x && (k == .local || k == .cell))) : Sem Bool) = _
  rw [hb, hl]
  rfl
theorem swap_dcomp {kx vx : Expr} {gs : List Comprehension} {scope : Scope} {vp px : Pos} {x : Str} {l : Nat} (ok : CtxOk C L E c k X) (hf : isFn c.sc = true) :
    swapsWith (.DictComp kx vx gs scope vp) (some (.Name x px)) l X.env = pure (swapB c x px scope vp) := by
  have hk := fn_ok ok hf
  have hb : X.env.blockKind = .function := by unfold Env.blockKind; rw [hk]; rfl
  have hl : (X.env.kindOf x == some .local) = isLoc c x := by
    unfold Env.kindOf isLoc
    rw [ok.sc]
    cases c.sc.names.lookup x with
    | none => rfl
    | some kk => cases kk <;> rfl
  show (pure (X.env.blockKind == .function && X.env.kindOf x == some .local && px.line == vp.line && !(scope.names.any fun (n, k) => n == x && (k == .local || k == .cell))) : Sem Bool) = _
  rw [hb, hl]
  rfl
/-- name = value -/
theorem set_ok (Z : Extra C sub L) (ok : CtxOk C L E c k X) {x : Str} {px pos : Pos} {i : Nat} {v : Expr} (hi : c.wr x = some i) (h : setOk c x px v = true) : PS X (.Assign [.Name x px] v pos) (TSv C sub wf L (WE E) (.asg i (compE n c v))) := by
  obtain ⟨a1, a2, a3⟩ := wr_ok ok hi
  have hN : X.N.Nodup := by rw [ok.N]; exact ok.nd
  have S := sound (k := k) Z n
  have gen : (swapsWith v (some (.Name x px)) pos.line X.env = pure false) → PS X (.Assign [.Name x px] v pos) (TSv C sub wf L (WE E) (.asg i (compE n c v))) := fun hs =>
    (ps_set hN a1 a2 (S.E E c X ok v) hs a3).imp s_asg
  cases v <;> try exact gen rfl
  · rename_i el gs scope vp
    have hf : isFn c.sc = true := h
    have hs := swap_comp (el := el) (gs := gs) (scope := scope) (vp := vp) (px := px) (x := x) (l := pos.line) ok hf
    cases hb : swapB c x px scope vp with
    | false => rw [hb] at hs; exact gen hs
    | true =>
      rw [hb] at hs
      have hloc : isLoc c x = true := by
        unfold swapB at hb
        simp only [Bool.and_eq_true] at hb
        exact hb.1.1
      cases n with
      | zero =>
        refine ⟨fun pins s σ H D I h => ?_⟩
        rw [compE] at h
        exact (t_bad σ H _ (s_asg D σ H h)).elim
      | succ m =>
        have S := sound (k := k) Z m
        unfold compE
        simp only
        split
        · split
          · rename_i tg htg
            split
            · rename_i h
              simp only [Bool.and_eq_true, List.all_eq_true, decide_eq_true_eq] at h
              refine (ps_setLc ok.calm hN a1 (loc_ok ok hloc) hs (S.I E c X ok _ _ _ tg_tup) (own_ix ok h.1.2) (fun s H cn cl fp => tg_ok (ok.blk s H _ cn cl fp) htg) (fun s H cn cl fp => S.Ts _ _ _ (ok.blk s H _ cn cl fp) _)
                (fun s H cn cl fp => S.E _ _ _ (ok.blk s H _ cn cl fp) _) (noset_fold h.1.1)).imp fun D σ H q => ?_
              exact t_lc h.2 σ H _ (s_asg D σ H q)
            · exact ⟨fun pins s σ H D I h => (t_bad σ H _ (s_asg D σ H h)).elim⟩
          · exact ⟨fun pins s σ H D I h => (t_bad σ H _ (s_asg D σ H h)).elim⟩
        · exact ⟨fun pins s σ H D I h => (t_bad σ H _ (s_asg D σ H h)).elim⟩
  · cases h
  · rename_i kx vx gs scope vp
    have h' : isFn c.sc = true ∧ swapB c x px scope vp = false := by
      unfold setOk at h
      simpa only [Bool.and_eq_true, Bool.not_eq_true'] using h
    have hs := swap_dcomp (kx := kx) (vx := vx) (gs := gs) (scope := scope) (vp := vp) (px := px) (x := x) (l := pos.line) ok h'.1
    rw [h'.2] at hs
    exact gen hs
theorem star_f {a : Expr} (h : notStar a = true) : (match a with | .Starred .. => true | _ => false) = false := by
  cases a <;> first | rfl | (cases h)
theorem par2_sw (ok : CtxOk C L E c k X) {x y : Str} {px py : Pos} {a b : Expr} {kt k2 : Nat} {pt pt2 : Pos} (h : par2 c x y px py a b = true) :
    swappedStores [.Tuple [.Name x px, .Name y py] kt pt] (.Tuple [a, b] k2 pt2) X.env = pure (some [x, y]) ∧ x ≠ y := by
  unfold par2 at h
  simp only [Bool.and_eq_true, Bool.not_eq_true'] at h
  obtain ⟨⟨⟨⟨⟨⟨⟨⟨h1, h2⟩, h3⟩, h4⟩, h5⟩, h6⟩, h7⟩, h8⟩, h9⟩ := h
  have hk := fn_ok ok h1
  have hb : X.env.blockKind = .function := by unfold Env.blockKind; rw [hk]; rfl
  have hx : X.env.kindOf x = some .local := loc_ok ok h2
  have hy : X.env.kindOf y = some .local := loc_ok ok h3
  have hne : x ≠ y := fun e => by rw [e] at h5; unfold eqS at h5; simp at h5
  have hl : py.line = px.line := (eq_of_beq h4).symm
  have hd : ([x, y].eraseDups).length = 2 := by
    have hyx : (y == x) = false := by simp [Ne.symm hne]
    simp [List.eraseDups_cons, hyx]
  refine ⟨?_, hne⟩
  have key : ∀ f : Expr → Bool, (∀ e, notStar e = true → f e = false) → List.any [a, b] f = false := fun f hf => by simp [hf a h6, hf b h7]
  unfold swappedStores
  simp only
  rw [key _ (fun e he => by cases e <;> first | rfl | (cases he))]
  rw [h8, h9]
  simp only [List.length_cons, List.length_nil, hb, List.head?_cons, Option.map_some, Option.getD_some, List.filterMap_cons, List.filterMap_nil, hx, hy]
  have e1 : (Expr.Name x px).pos.line = px.line := rfl
  simp [e1, hl, hd]
theorem not_loc (ok : CtxOk C L E c k X) {x : Str} (h : isLoc c x = false) : (X.env.kindOf x == some .local) = false := by
  unfold isLoc at h
  unfold Env.kindOf
  rw [ok.sc]
  cases q : c.sc.names.lookup x with
  | none => rfl
  | some kk => cases kk <;> first | rfl | (rw [q] at h; cases h)
theorem cel_sw (ok : CtxOk C L E c k X) {x y : Str} {px py : Pos} {a b : Expr} {kt k2 : Nat} {pt pt2 : Pos} (h : celP c x y = true) :
    swappedStores [.Tuple [.Name x px, .Name y py] kt pt] (.Tuple [a, b] k2 pt2) X.env = pure none := by
  unfold celP at h
  simp only [Bool.and_eq_true, Bool.or_eq_true, Bool.not_eq_true'] at h
  have hk := fn_ok ok h.1
  have hb : X.env.blockKind = .function := by unfold Env.blockKind; rw [hk]; rfl
  have e1 : (Expr.Name x px).pos.line = px.line := rfl
  have e2 : (Expr.Name y py).pos.line = py.line := rfl
  rcases h.2 with z | z
  · have e := not_loc ok z
    unfold swappedStores
    simp only [List.length_cons, List.length_nil, List.head?_cons, Option.map_some, Option.getD_some, List.filterMap_cons, List.filterMap_nil, e, Bool.false_and, Bool.false_eq_true, if_false, e1]
    cases (X.env.kindOf y == some NameKind.local && py.line == px.line) <;> simp
  · have e := not_loc ok z
    unfold swappedStores
    simp only [List.length_cons, List.length_nil, List.head?_cons, Option.map_some, Option.getD_some, List.filterMap_cons, List.filterMap_nil, e, Bool.false_and, Bool.false_eq_true, if_false, e1]
    cases (X.env.kindOf x == some NameKind.local && px.line == px.line) <;> simp
theorem par3_sw (ok : CtxOk C L E c k X) {x y z : Str} {px py pz : Pos} {a b d : Expr} {kt k2 : Nat} {pt pt2 : Pos} (h : par3 c x y z px py pz a b d = true) :
    swappedStores [.Tuple [.Name x px, .Name y py, .Name z pz] kt pt] (.Tuple [a, b, d] k2 pt2) X.env = pure (some [x, y, z]) ∧ x ≠ y ∧ x ≠ z ∧ y ≠ z := by
  unfold par3 at h
  simp only [Bool.and_eq_true, Bool.not_eq_true'] at h
  obtain ⟨⟨⟨⟨⟨⟨⟨⟨⟨⟨⟨⟨⟨h1, h2⟩, h3⟩, h3z⟩, h4⟩, h4z⟩, h5⟩, h5z⟩, h5y⟩, h6⟩, h7⟩, h7z⟩, h8⟩, h9⟩ := h
  have hk := fn_ok ok h1
  have hb : X.env.blockKind = .function := by unfold Env.blockKind; rw [hk]; rfl
  have hx : X.env.kindOf x = some .local := loc_ok ok h2
  have hy : X.env.kindOf y = some .local := loc_ok ok h3
  have hz : X.env.kindOf z = some .local := loc_ok ok h3z
  have ne : ∀ {u w : Str}, eqS u w = false → u ≠ w := fun q e => by rw [e] at q; unfold eqS at q; simp at q
  have hl : py.line = px.line := (eq_of_beq h4).symm
  have hl2 : pz.line = px.line := (eq_of_beq h4z).symm
  have hd : ([x, y, z].eraseDups).length = 3 := by
    have a1 : (y == x) = false := by simp [Ne.symm (ne h5)]
    have a2 : (z == x) = false := by simp [Ne.symm (ne h5z)]
    have a3 : (z == y) = false := by simp [Ne.symm (ne h5y)]
    simp [List.eraseDups_cons, a1, a2, a3]
  refine ⟨?_, ne h5, ne h5z, ne h5y⟩
  have key : ∀ f : Expr → Bool, (∀ e, notStar e = true → f e = false) → List.any [a, b, d] f = false := fun f hf => by simp [hf a h6, hf b h7, hf d h7z]
  unfold swappedStores
  simp only
  rw [key _ (fun e he => by cases e <;> first | rfl | (cases he))]
  rw [h8, h9]
  simp only [List.length_cons, List.length_nil, hb, List.head?_cons, Option.map_some, Option.getD_some, List.filterMap_cons, List.filterMap_nil, hx, hy, hz]
  have e1 : (Expr.Name x px).pos.line = px.line := rfl
  simp [e1, hl, hl2, hd]
theorem ix_ne (ok : CtxOk C L E c k X) {x y : Str} {i j : Nat} (hx : c.ix x = some i) (hy : c.ix y = some j) (h : x ≠ y) : i ≠ j := fun e => by
  subst e
  have a := ix_ok ok hx
  have b := ix_ok ok hy
  rw [a] at b
  exact h (Option.some.inj b)
theorem no_tupsw {ts : List Expr} {kt : Nat} {pt : Pos} {v : Expr} {env : PySem.Env} (h : isTup2 v = false) : swappedStores [.Tuple ts kt pt] v env = pure none := by
  cases v <;> first | rfl | (cases h)
theorem TKv.mono {es : List IE} {σ : L2.St} {H : Hp} {Q Q' : List V → Hp → Prop} (h : TKv C sub L W es σ H Q) (k : ∀ vs H', Q vs H' → Q' vs H') : TKv C sub L W es σ H Q' := by
  obtain ⟨fl, A, env, os, r, w⟩ := h
  exact ⟨fl, A, env, os, r, w.mono k⟩
theorem pk_nil' : PA X [] (TKv C sub L W []) := pa_nil.imp t_knil
theorem pk_cons' {a : Expr} {as : List Expr} {ia : IE} {ias : List IE} (h : PE X a (TEv C sub L W ia)) (hr : PA X as (TKv C sub L W ias)) (hs : starEach (a :: as) X.env = (false, eval a X.env) :: starEach as X.env) : PA X (a :: as) (TKv C sub L W (ia :: ias)) :=
  (pa_cons h hr hs).imp t_kcons
theorem stepS_P (Z : Extra C sub L) (oks : CtxOkS C L E c k X) (ts : List Expr) (kt : Nat) (pt : Pos) (v : Expr) (pos : Pos) : PS X (.Assign [.Tuple ts kt pt] v pos) (TSv C sub wf L (WE E) (compPar (n + 1) c ts v)) := by
  have ok := oks.ok
  have S := sound (k := k) Z n
  have hN : X.N.Nodup := by rw [ok.N]; exact ok.nd
  rw [compPar.eq_def]
  dsimp only
  split
  · rename_i x px y py a b k2 p2
    split
    · rename_i h
      obtain ⟨hw, hne⟩ := par2_sw (kt := kt) (pt := pt) (k2 := k2) (pt2 := p2) ok h
      unfold par2 at h
      simp only [Bool.and_eq_true, Bool.not_eq_true'] at h
      obtain ⟨⟨⟨⟨⟨⟨⟨⟨h1, h2⟩, h3⟩, h4⟩, h5⟩, h6⟩, h7⟩, h8⟩, h9⟩ := h
      split
      · rename_i i j hi hj
        have pk : PA X [a, b] (TKv C sub L (WE E) [compE n c a, compE n c b]) := pk_cons' (S.E E c X ok a) (pk_cons' (S.E E c X ok b) pk_nil' (star_cons h7)) (star_cons h6)
        refine (ps_par ok.calm hN (ix_ok ok hi) (ix_ok ok hj) (ix_ne ok hi hj hne) (loc_ok ok h2) (loc_ok ok h3) pk hw rfl).imp fun D σ H q => ?_
        obtain ⟨_, q2⟩ := s_par D σ H q
        refine TKv.mono q2 fun vs H1 ⟨hl, hx⟩ => ?_
        match vs, hl, hx with
        | [u, w], _, hx => exact ⟨u, w, rfl, hx _ (Ex.refl _)⟩
      · exact ps_bad
    · split
      · rename_i h
        simp only [Bool.and_eq_true] at h
        split
        · rename_i i j hi hj
          obtain ⟨a1, a2, a3⟩ := wr_ok ok hi
          obtain ⟨b1, b2, b3⟩ := wr_ok ok hj
          have pk : PA X [a, b] (TKv C sub L (WE E) [compE n c a, compE n c b]) := pk_cons' (S.E E c X ok a) (pk_cons' (S.E E c X ok b) pk_nil' (star_cons h.2)) (star_cons h.1.2)
          have pg : PG X (.Tuple [.Name x px, .Name y py] kt pt) (gTup X.K 2 (gNms [i, j])) := pg_tup ok.calm (pgs_cons (pg_name hN a1 a2 a3) (pgs_cons (pg_name hN b1 b2 b3) pgs_nil rfl) rfl) rfl rfl
          refine (ps_asg (pe_tup pk) pg (no_swap1 rfl) (cel_sw ok h.1.1) rfl).imp fun D σ H q => ?_
          obtain ⟨_, q2⟩ := s_par D σ H q
          refine TKv.mono q2 fun vs H1 ⟨hl, hx⟩ => ?_
          match vs, hl, hx with
          | [u, w], _, hx => exact ⟨by show 2 ≤ sizeLine; decide, fun p hp => ⟨p, [u, w], rfl, .of upd_same, rfl, u, [w], rfl, w, [], rfl, rfl, hx _ (Ex.new hp)⟩⟩
        · exact ps_bad
      · exact ps_bad
  · rename_i x px y py z pz a b d k2 p2
    split
    · rename_i h
      obtain ⟨hw, hne, hne2, hne3⟩ := par3_sw (kt := kt) (pt := pt) (k2 := k2) (pt2 := p2) ok h
      unfold par3 at h
      simp only [Bool.and_eq_true, Bool.not_eq_true'] at h
      obtain ⟨⟨⟨⟨⟨⟨⟨⟨⟨⟨⟨⟨⟨h1, h2⟩, h3⟩, h3z⟩, h4⟩, h4z⟩, h5⟩, h5z⟩, h5y⟩, h6⟩, h7⟩, h7z⟩, h8⟩, h9⟩ := h
      split
      · rename_i i j l hi hj hl
        have pk : PA X [a, b, d] (TKv C sub L (WE E) [compE n c a, compE n c b, compE n c d]) := pk_cons' (S.E E c X ok a) (pk_cons' (S.E E c X ok b) (pk_cons' (S.E E c X ok d) pk_nil' (star_cons h7z)) (star_cons h7)) (star_cons h6)
        refine (ps_par3 ok.calm hN (ix_ok ok hi) (ix_ok ok hj) (ix_ok ok hl) (ix_ne ok hi hj hne) (ix_ne ok hi hl hne2) (ix_ne ok hj hl hne3) (loc_ok ok h2) (loc_ok ok h3) (loc_ok ok h3z) pk hw rfl).imp fun D σ H q => ?_
        obtain ⟨_, q2⟩ := s_par D σ H q
        refine TKv.mono q2 fun vs H1 ⟨hl, hx⟩ => ?_
        match vs, hl, hx with
        | [u, w, y], _, hx => exact ⟨u, w, y, rfl, hx _ (Ex.refl _)⟩
      · exact ps_bad
    · exact ps_bad
  · split
    · rename_i h
      simp only [Bool.and_eq_true, Bool.not_eq_true'] at h
      split
      · rename_i is his
        obtain ⟨g, a, b⟩ := tgs_ok ok his
        have pg : PG X (.Tuple ts kt pt) (gTg L.K (.nms is)) := by
          rw [← ok.K]
          exact pg_tup ok.calm g a b
        exact (ps_asg (S.E E c X ok v) pg (no_swap1 h.1) (no_tupsw h.2) rfl).imp s_asgN
      · exact ps_bad
    · exact ps_bad
theorem stepS_Ss (S : SoundS C sub wf L k n) (oks : CtxOkS C L E c k X) (ss : List Stmt) : PSs X ss (TSSv C sub wf L (WE E) (compSs (n + 1) c ss)) := by
  unfold compSs
  split
  · exact pss_nil.imp ss_nil
  · exact (pss_cons (S.S E c X oks _) (S.Ss E c X oks _)).imp ss_cons
theorem stepS_S (Z : Extra C sub L) (S : SoundS C sub wf L k n) (oks : CtxOkS C L E c k X) (st : Stmt) : PS X st (TSv C sub wf L (WE E) (compS (n + 1) c st)) := by
  have ok := oks.ok
  have SE := sound (k := k) Z n
  have hN : X.N.Nodup := by rw [ok.N]; exact ok.nd
  unfold compS
  split
  · -- stores
    split
    · split
      · rename_i i hi
        split
        · rename_i h
          exact set_ok Z ok hi h
        · exact ps_bad
      · exact ps_bad
    · exact S.P E c X oks _ _ _ _ _
    · split
      · rename_i kx hk
        obtain ⟨a, b, d1, d2⟩ := rd_ok ok hk
        split
        · rename_i h
          simp only [Bool.and_eq_true] at h
          rename_i xn xp ix ip _
          have hs : ∀ v, assign (.Subscript (.Name xn xp) ix ip) X.env v = (do
              let ov ← holding [v] (eval (.Name xn xp) X.env)
              let iv ← holding [v, ov] (eval ix X.env)
              standAt ip
              holding [v, ov, iv] (setItem ov iv v)
              release [v, ov, iv] []) := fun v => by
            cases ix <;> first | rfl | (cases h.1)
          exact (ps_asg (SE.E E c X ok _) (pg_sub (pe_var a b d1 d2) (SE.O E c X ok ix) (set_any (by have := units65 ok; omega)) hs) (no_swap1 h.2) rfl rfl).imp s_seti
        · exact ps_bad
      · exact ps_bad
    · exact ps_bad
  · split
    · rename_i i hi
      obtain ⟨a1, a2, a3⟩ := wr_ok ok hi
      exact (ps_aug hN a1 a2 (SE.O E c X ok _) ip_add a3).imp s_aug
    · exact ps_bad
  · split
    · rename_i tg htg
      split
      · rename_i h
        exact (ps_for oks.po ok.calm (SE.I E c X ok _ _ _ tg_tup) (tg_ok ok htg) (S.Ss E c X oks _) (noset_fold h)).imp s_for
      · exact ps_bad
    · exact ps_bad
  · exact (ps_while oks.po (SE.T E c X ok _) (S.Ss E c X oks _)).imp s_while
  · exact (ps_if (SE.T E c X ok _) (S.Ss E c X oks _) (S.Ss E c X oks _)).imp s_if
  · split
    · refine ps_retN.imp fun D σ H h => ?_
      exact t_cst (v := .non) (fun B H => by simp only [Rep]) σ H D.rt (s_retE D σ H h)
    · split
      · rename_i i hi
        obtain ⟨a, b, d1, d2⟩ := rd_ok ok hi
        exact (ps_ret (pe_var a b d1 d2)).imp s_retV
      · exact ps_bad
    · exact (ps_ret (SE.E E c X ok _)).imp s_retE
  · split
    · rename_i kx hk
      split
      · rename_i h
        simp only [Bool.and_eq_true, Bool.not_eq_true'] at h
        obtain ⟨bmB, B, nI, iI, F, q1, q2, q3, q4⟩ := oks.exc _ kx hk
        exact (ps_raise ok.calm ok.tk (pmk_own F q1 q2 q3 q4 (glb_ok ok h.1) h.2)).imp s_rse
      · exact ps_bad
    · exact ps_bad
  · split
    · exact ps_doc.imp s_pas
    · split
      · rename_i hm
        have e := eqS_eq hm; subst e
        split
        · rename_i i hi
          obtain ⟨v1, v2, d1, d2⟩ := rd_ok ok hi
          split
          · rename_i h
            simp only [Bool.and_eq_true] at h
            have st := star_cons (env := X.env) (es := []) h.2
            refine (ps_expr (pe_bm PySem.F.plainAttrs_list PySem.F.slot_list_append PySem.F.type_list_append mt_append (pe_var v1 v2 d1 d2) (pa_cons (SE.E E c X ok _) pa_nil st) rfl (by rw [st]; rfl) h.1 st rfl) rfl).imp ?_
            rw [ok.K]; exact s_app
          · exact ps_bad
        · exact ps_bad
      · exact (ps_expr (SE.E E c X ok _) rfl).imp s_exp
    · split
      · rename_i h
        exact (ps_expr (SE.E E c X ok _) (no_swap h)).imp s_exp
      · exact ps_bad
  · exact ps_pass.imp s_pas
  · exact ps_bad
theorem soundS_0 : SoundS C sub wf L k 0 where
  S := fun E c X ok e => by rw [compS]; exact ps_bad
  P := fun E c X ok ts kt pt v pos => by rw [compPar]; exact ps_bad
  Ss := fun E c X ok e => by rw [compSs]; exact pss_bad
theorem soundS (Z : Extra C sub L) : ∀ n, SoundS C sub wf L k n
  | 0 => soundS_0
  | n + 1 => {
    S := fun E c X ok s => stepS_S Z (soundS Z n) ok s
    P := fun E c X ok ts kt pt v pos => stepS_P Z ok ts kt pt v pos
    Ss := fun E c X ok s => stepS_Ss (soundS Z n) ok s }
end
end Sb

set_option Elab.async false
set_option linter.all false
set_option maxRecDepth 100000
/-! isinstance; repr. -/
namespace Sb
open PySem PySem.Spec PyProof.Rows L2
def tyNm : Ty → String
  | .int => "int" | .bool => "bool" | .tuple => "tuple" | .list => "list" | .str => "str"
def dNm : D → String
  | .non => "NoneType" | .bl _ => "bool" | .int _ => "int" | .str _ => "str" | .tup _ => "tuple" | .lst _ => "list" | .dct _ _ => "dict" | .obj _ _ => "" | .scr _ => ""
def noOb : D → Bool
  | .obj _ _ => false
  | .scr _ => false
  | _ => true
theorem kit_d : ∀ (d : D) (t : Ty), noOb d = true → kitB (dNm d) (tyNm t) = some (isTy d t)
  | .non, .int, _ => (by decide +kernel : kitB "NoneType" "int" = some false)
  | .non, .bool, _ => (by decide +kernel : kitB "NoneType" "bool" = some false)
  | .non, .tuple, _ => (by decide +kernel : kitB "NoneType" "tuple" = some false)
  | .non, .list, _ => (by decide +kernel : kitB "NoneType" "list" = some false)
  | .non, .str, _ => (by decide +kernel : kitB "NoneType" "str" = some false)
  | .bl _, .int, _ => (by decide +kernel : kitB "bool" "int" = some true)
  | .bl _, .bool, _ => (by decide +kernel : kitB "bool" "bool" = some true)
  | .bl _, .tuple, _ => (by decide +kernel : kitB "bool" "tuple" = some false)
  | .bl _, .list, _ => (by decide +kernel : kitB "bool" "list" = some false)
  | .bl _, .str, _ => (by decide +kernel : kitB "bool" "str" = some false)
  | .int _, .int, _ => (by decide +kernel : kitB "int" "int" = some true)
  | .int _, .bool, _ => (by decide +kernel : kitB "int" "bool" = some false)
  | .int _, .tuple, _ => (by decide +kernel : kitB "int" "tuple" = some false)
  | .int _, .list, _ => (by decide +kernel : kitB "int" "list" = some false)
  | .int _, .str, _ => (by decide +kernel : kitB "int" "str" = some false)
  | .str _, .int, _ => (by decide +kernel : kitB "str" "int" = some false)
  | .str _, .bool, _ => (by decide +kernel : kitB "str" "bool" = some false)
  | .str _, .tuple, _ => (by decide +kernel : kitB "str" "tuple" = some false)
  | .str _, .list, _ => (by decide +kernel : kitB "str" "list" = some false)
  | .str _, .str, _ => (by decide +kernel : kitB "str" "str" = some true)
  | .tup _, .int, _ => (by decide +kernel : kitB "tuple" "int" = some false)
  | .tup _, .bool, _ => (by decide +kernel : kitB "tuple" "bool" = some false)
  | .tup _, .tuple, _ => (by decide +kernel : kitB "tuple" "tuple" = some true)
  | .tup _, .list, _ => (by decide +kernel : kitB "tuple" "list" = some false)
  | .tup _, .str, _ => (by decide +kernel : kitB "tuple" "str" = some false)
  | .lst _, .int, _ => (by decide +kernel : kitB "list" "int" = some false)
  | .lst _, .bool, _ => (by decide +kernel : kitB "list" "bool" = some false)
  | .lst _, .tuple, _ => (by decide +kernel : kitB "list" "tuple" = some false)
  | .lst _, .list, _ => (by decide +kernel : kitB "list" "list" = some true)
  | .lst _, .str, _ => (by decide +kernel : kitB "list" "str" = some false)
  | .dct _ _, .int, _ => (by decide +kernel : kitB "dict" "int" = some false)
  | .dct _ _, .bool, _ => (by decide +kernel : kitB "dict" "bool" = some false)
  | .dct _ _, .tuple, _ => (by decide +kernel : kitB "dict" "tuple" = some false)
  | .dct _ _, .list, _ => (by decide +kernel : kitB "dict" "list" = some false)
  | .dct _ _, .str, _ => (by decide +kernel : kitB "dict" "str" = some false)
  | .obj _ _, _, h => by cases h
  | .scr _, _, h => by cases h
section
variable {L : Lk} {B : AP} {H H' : Hp} {K : PySem.W.Frag}
theorem root_ext {d : D} {v : V} (e : Ex H H') (r : Root L B H d v) : Root L B H' d v := by
  cases d with
  | lst ds => obtain ⟨p, vs, a, b, c⟩ := r; exact ⟨p, vs, a, e p _ b, stp_reps e c⟩
  | dct ks us => obtain ⟨p, vs, a, b, c, c2, c3⟩ := r; exact ⟨p, vs, a, e p _ b, c, c2, stp_reps e c3⟩
  | obj c fs => obtain ⟨p, dx, vs, a, b, c, c2⟩ := r; exact ⟨p, dx, vs, a, e p _ b, stp_reps e c, c2⟩
  | non => exact Rep.keep (O := fun _ => False) e.pr (fun _ z => z.elim) r
  | bl _ => exact Rep.keep (O := fun _ => False) e.pr (fun _ z => z.elim) r
  | int _ => exact Rep.keep (O := fun _ => False) e.pr (fun _ z => z.elim) r
  | str _ => exact Rep.keep (O := fun _ => False) e.pr (fun _ z => z.elim) r
  | tup _ => exact Rep.keep (O := fun _ => False) e.pr (fun _ z => z.elim) r
  | scr _ => exact Rep.keep (O := fun _ => False) e.pr (fun _ z => z.elim) r
theorem root_ty {d : D} {v : V} (h : noOb d = true) (r : Root L B H d v) : TyX L.K H v (.type (dNm d)) := by
  cases d with
  | non => rw [root_non r]; exact .base .non
  | bl b => rw [root_bl r]; exact .base (.bl b)
  | int i => rw [root_int r]; exact .base (.int i)
  | str x => rw [root_str r]; exact .base (.str x)
  | tup ds =>
    obtain ⟨p, vs, e, hs, _⟩ := root_tup r
    rw [e]
    rcases hs with (hs | ⟨o, hs⟩) | ⟨o, its, n, hs, c, _⟩
    · exact .base (.tup hs)
    · exact .fTuple hs
    · exact .kTuple hs c
  | lst ds => obtain ⟨p, vs, e, hs, _⟩ := root_lst r; rw [e]; exact .base (.lst hs)
  | dct ks us => obtain ⟨p, vs, e, hs, _⟩ := root_dct r; rw [e]; exact .base (.dK hs)
  | obj _ _ => cases h
  | scr _ => cases h
theorem kit_any {d : D} (h : noOb d = true) : ∀ ts : List Ty, PySem.W.kitAny K (.type (dNm d)) (ts.map fun t => .type (tyNm t)) = some (ts.any (isTy d))
  | [] => kitAny_nil
  | t :: ts => by
    rw [List.map_cons, List.any_cons]
    refine kitAny_cons (kit_ty (kit_d d t h)) (fun e => ?_) fun e => ?_
    · rw [e, Bool.false_or]; exact kit_any h ts
    · rw [e]; rfl
theorem isi_op {d : D} {ts : List Ty} {z : FD} (e : op1D (.isi ts) d = some z) : noOb d = true ∧ z = (false, .bl (ts.any (isTy d))) := by
  cases d <;> simp only [op1D, reduceCtorEq] at e <;> (cases e; exact ⟨rfl, rfl⟩)
theorem u_isi (t : Ty) : Op1S L (fun x H Q => rIsi L.K [x, .ty (tyNm t)] H Q) (.isi [t]) := by
  intro B H x a z Q hx e k
  obtain ⟨h, rfl⟩ := isi_op e
  exact ⟨x, .ty (tyNm t), _, _, isTy a t, rfl, .ty _, root_ty h hx, kit_ty (kit_d a t h), by have := k _ _ (post_same (B := B) rep_bl); simpa using this⟩
theorem u_isiT (ts : List Ty) : Op1S L (fun x H Q => ∀ p, H p = none → rIsiT L.K [x, .ref p] (upd H p (.tup (ts.map fun t => V.ty (tyNm t)))) Q) (.isi ts) := by
  intro B H x a z Q hx e k p hp
  obtain ⟨h, rfl⟩ := isi_op e
  refine ⟨x, p, ts.map fun t => V.ty (tyNm t), _, ts.map fun t => .type (tyNm t), ts.any (isTy a), rfl, upd_same, ?_, root_ty h (root_ext (Ex.new hp) hx), kit_any h ts, k _ _ ⟨Ex.new hp, by rw [if_neg (show ¬ (false = true) by decide)]; exact rep_bl⟩⟩
  clear e k
  induction ts with
  | nil => exact .nil
  | cons t ts ih => exact .cons (.ty _) ih
end
section
variable {C : Cal} {sub : Nat → Nat → Bool} {L : Lk} {E : XK} {c : CI} {k n : Nat} {X : Cx} {W : WX}
theorem ty_ok (ok : CtxOk C L E c k X) {e : Expr} {t : Ty} (h : c.ty1 e = some t) : PE X e (tC (.ty (tyNm t))) ∧ notStar e = true := by
  cases e <;> simp only [CI.ty1, reduceCtorEq] at h
  rename_i x p
  split at h
  case isFalse => cases h
  rename_i hg
  refine ⟨?_, rfl⟩
  have hgl := glb_ok ok hg
  unfold tyOf at h
  split at h
  · rename_i e; have e := eqS_eq e; subst e; cases h
    exact pe_bltn (u := .type "int") hgl (not_fn ok (by decide)) (by decide +kernel) rfl
  split at h
  · rename_i e; have e := eqS_eq e; subst e; cases h
    exact pe_bltn (u := .type "bool") hgl (not_fn ok (by decide)) (by decide +kernel) rfl
  split at h
  · rename_i e; have e := eqS_eq e; subst e; cases h
    exact pe_bltn (u := .type "tuple") hgl (not_fn ok (by decide)) (by decide +kernel) rfl
  split at h
  · rename_i e; have e := eqS_eq e; subst e; cases h
    exact pe_bltn (u := .type "list") hgl (not_fn ok (by decide)) (by decide +kernel) rfl
  split at h
  · rename_i e; have e := eqS_eq e; subst e; cases h
    exact pe_bltn (u := .type "str") hgl (not_fn ok (by decide)) (by decide +kernel) rfl
  · cases h
def tTys : List Ty → TA
  | [] => tNil
  | t :: ts => tCons (tC (.ty (tyNm t))) (tTys ts)
theorem tys_rd : ∀ (ts : List Ty) (σ : L2.St) (H : Hp) (Q : List V → Hp → Prop), Q (ts.map fun t => V.ty (tyNm t)) H → tTys ts σ H Q
  | [], σ, H, Q, q => q
  | t :: ts, σ, H, Q, q => tys_rd ts σ H _ q
theorem tys_ok (ok : CtxOk C L E c k X) : ∀ {es : List Expr} {ts : List Ty}, c.tys es = some ts → PA X es (tTys ts)
  | [], ts, h => by
    simp only [CI.tys, Option.some.injEq] at h
    subst h
    exact pa_nil
  | e :: es, ts, h => by
    simp only [CI.tys] at h
    cases q1 : c.ty1 e with
    | none => rw [q1] at h; simp at h
    | some t => cases q2 : c.tys es with
      | none => rw [q1, q2] at h; simp at h
      | some ts' =>
        rw [q1, q2] at h
        simp only [Option.some.injEq] at h
        subst h
        obtain ⟨a, b⟩ := ty_ok ok q1
        exact pa_cons a (tys_ok ok q2) (star_cons b)
theorem x_isi (ok : CtxOk C L E c k X) (a b : Expr) (ia : IE) (ts : List Ty) (p q : Pos) (hg : Gl X "isinstance") (hs : notStar a = true) (ha : PE X a (TEv C sub L (WE E) ia))
    (h : c.ty1 b = (match ts with | [t] => some t | _ => none) ∧ ts.length = 1 ∨ ∃ es kk p', b = .Tuple es kk p' ∧ c.tys es = some ts ∧ ts.length ≤ 10 ∧ 1 ≤ ts.length) :
    PE X (.Call (.Name "isinstance" p) [a, b] [] q) (TEv C sub L (WE E) (.op1 (.isi ts) ia)) := by
  rcases h with ⟨h1, h2⟩ | ⟨es, kk, p', rfl, h1, h2, h3⟩
  · match ts, h2, h1 with
    | [t], _, h1 =>
      obtain ⟨b1, b2⟩ := ty_ok ok h1
      refine (pe_callB call_isi hg (not_fn ok (by decide)) (by decide +kernel) (pa_cons ha (pa_cons b1 pa_nil (star_cons b2)) (star_cons hs)) (he := star_cons hs) (hpl := star_any (by simp [b2]))).imp ?_
      rw [ok.K]
      intro σ H Q h
      exact tUn_of (u_isi t) σ H Q h
  · refine (pe_callB call_isiT hg (not_fn ok (by decide)) (by decide +kernel) (pa_cons ha (pa_cons (pe_tup (tys_ok ok h1)) pa_nil rfl) (star_cons hs)) (he := star_cons hs) (hpl := rfl)).imp ?_
    rw [ok.K]
    intro σ H Q h
    refine tUn_of (r := fun x H Q => tTup (tTys ts) σ H fun y H2 => rIsiT L.K [x, y] H2 Q) ?_ σ H Q h
    intro B H x d z Q hx e k
    refine tys_rd ts σ H _ ⟨by rw [List.length_map]; exact Nat.le_trans h2 (by decide), u_isiT ts B H x d z Q hx e k⟩
end
end Sb

set_option Elab.async false
set_option linter.all false
set_option maxRecDepth 100000
/-! repr. -/
namespace Sb
open PySem PySem.Spec PyProof.Rows L2
section
variable {L : Lk} {B : AP} {H H' : Hp}
theorem root_rep {d : D} {v : V} (r : Root L B H d v) : Rep L (fun _ => False) H d v := by
  cases d with
  | lst ds => obtain ⟨p, vs, a, b, c⟩ := r; simp only [Rep]; exact ⟨p, vs, a, fun z => z, b, c.less fun _ z => z.elim⟩
  | dct ks us => obtain ⟨p, vs, a, b, c, c2, c3⟩ := r; simp only [Rep]; exact ⟨p, vs, a, fun z => z, b, c, c2, c3.less fun _ z => z.elim⟩
  | obj c fs => obtain ⟨p, dx, vs, a, b, c, c2⟩ := r; simp only [Rep]; exact ⟨p, dx, vs, a, fun z => z, b, c.less fun _ z => z.elim, c2⟩
  | non => exact Rep.less (B := B) (fun _ z => False.elim z) r
  | bl _ => exact Rep.less (B := B) (fun _ z => False.elim z) r
  | int _ => exact Rep.less (B := B) (fun _ z => False.elim z) r
  | str _ => exact Rep.less (B := B) (fun _ z => False.elim z) r
  | tup _ => exact Rep.less (B := B) (fun _ z => False.elim z) r
  | scr _ => exact Rep.less (B := B) (fun _ z => False.elim z) r
variable {X : Cx} {pins : List (Addr × Obj)} {σ : L2.St} {s : Shared}
theorem reads_nil (I : Inv X pins σ H s) {p : Addr} {kvs : List (Key × V)} (h : H p = some (.dK kvs)) (hk : kvs = []) : Reads s.heap (.ref p) (.dict []) [p] ∧ p ≠ sysModules := by
  subst hk
  obtain ⟨_, hs, vs, kv, dd⟩ := I.hok p _ h
  have hn : p ≠ sysModules := fun z => by rw [z] at hs; simp at hs
  cases kv
  obtain ⟨o, es, ep, e1, e2, e3, _, e4, _⟩ := dd
  have : es.toList = [] := by
    generalize es.toList = l at e4
    cases e4
    rfl
  refine ⟨?_, hn⟩
  have r := Reads.dict (h := s.heap) (a := p) (kvs := []) (as := []) (bs := []) e1 e2.1 e3 (by rw [this]; exact .nil) (by rw [this]; exact .nil)
  simpa using r
mutual
theorem rep_reads (I : Inv X pins σ H s) (hK : X.K = L.K) : ∀ {d : D} {n : Nat} {v : V} {u : Value}, shows n d = true → Rep L B H d v → RelV v u → ∃ as, Reads s.heap u (toPy d) as ∧ (noLst n d = true → sysModules ∉ as)
  | .non, n, v, u, h, r, q => by simp only [Rep] at r; subst r; cases q; simp only [toPy]; exact ⟨[], .none, fun _ => by simp⟩
  | .bl b, n, v, u, h, r, q => by simp only [Rep] at r; subst r; cases q; simp only [toPy]; exact ⟨[], .bool b, fun _ => by simp⟩
  | .int b, n, v, u, h, r, q => by simp only [Rep] at r; subst r; obtain ⟨t, rfl⟩ := q; simp only [toPy]; exact ⟨[], .int b t, fun _ => by simp⟩
  | .str b, n, v, u, h, r, q => by simp only [Rep] at r; subst r; obtain ⟨t, rfl⟩ := q; simp only [toPy]; exact ⟨[], .str b t, fun _ => by simp⟩
  | .tup ds, 0, v, u, h, r, q => by simp [shows] at h
  | .tup ds, n + 1, v, u, h, r, q => by
    simp only [shows, Bool.and_eq_true, List.all_eq_true] at h
    simp only [Rep] at r
    obtain ⟨p, vs, e, hs, r2⟩ := r
    subst e
    cases q
    rw [← hK] at hs
    obtain ⟨its, rv, ⟨o, ho, hc, m, hd⟩, _⟩ := I.tuple hs
    obtain ⟨as, ra, hn⟩ := reps_reads I hK h.2 r2 rv
    simp only [toPy]
    exact ⟨as, .tuple ho hc hd (by simpa using ra), fun z => hn (by simpa only [noLst] using z)⟩
  | .lst ds, 0, v, u, h, r, q => by simp [shows] at h
  | .lst ds, n + 1, v, u, h, r, q => by
    simp only [shows, Bool.and_eq_true, List.all_eq_true] at h
    simp only [Rep] at r
    obtain ⟨p, vs, e, _, hs, r2⟩ := r
    subst e
    cases q
    obtain ⟨its, m, rv, ho, _⟩ := I.lst hs
    obtain ⟨as, ra, hn⟩ := reps_reads I hK h.2 r2 rv
    simp only [toPy]
    exact ⟨p :: as, .list ho rfl rfl (by simpa using ra), fun z => by simp [noLst] at z⟩
  | .dct ks us, 0, v, u, h, r, q => by cases ks <;> cases us <;> simp [shows] at h
  | .dct ks us, n + 1, v, u, h, r, q => by
    cases ks with
    | cons k ks => simp [shows] at h
    | nil => cases us with
      | cons _ _ => simp [shows] at h
      | nil =>
        simp only [Rep] at r
        obtain ⟨p, kvs, e, _, hs, hk, _, _⟩ := r
        subst e
        cases q
        have : kvs = [] := by cases kvs <;> simp [keysD] at hk ⊢
        obtain ⟨a, b⟩ := reads_nil I hs this
        simp only [toPy]
        exact ⟨[p], a, fun _ => by simp [Ne.symm b]⟩
  | .obj _ _, n, v, u, h, r, q => by cases n <;> simp [shows] at h
  | .scr _, n, v, u, h, r, q => by cases n <;> simp [shows] at h
theorem reps_reads (I : Inv X pins σ H s) (hK : X.K = L.K) : ∀ {ds : List D} {n : Nat} {vs : List V} {us : List Value}, (∀ x ∈ ds, shows n x = true) → Reps L B H ds vs → Vals vs us → ∃ as, ReadsAll s.heap us (toPys ds) as ∧ (ds.all (noLst n) = true → sysModules ∉ as)
  | [], n, [], [], h, r, q => by simp only [toPys]; exact ⟨[], .nil, fun _ => by simp⟩
  | d :: ds, n, v :: vs, u :: us, h, r, q => by
    simp only [Reps] at r
    cases q with
    | cons q1 q2 =>
      obtain ⟨as, r1, h1⟩ := rep_reads I hK (h d List.mem_cons_self) r.1 q1
      obtain ⟨bs, r2, h2⟩ := reps_reads I hK (fun x hx => h x (List.mem_cons_of_mem _ hx)) r.2 q2
      simp only [toPys]
      refine ⟨as ++ bs, .cons r1 r2, fun z => ?_⟩
      simp only [List.all_cons, Bool.and_eq_true] at z
      rw [List.mem_append, not_or]
      exact ⟨h1 z.1, h2 z.2⟩
  | [], _, _ :: _, _, _, r, _ => by simp only [Reps] at r
  | _ :: _, _, [], _, _, r, _ => by simp only [Reps] at r
  | [], _, [], _ :: _, _, _, q => nomatch q
  | _ :: _, _, _ :: _, [], _, _, q => nomatch q
end
mutual
theorem py_shows : ∀ {d : D} {n : Nat}, shows n d = true → (toPy d).showable = true ∧ (toPy d).depth ≤ n ∧ (noDct n d = true → (toPy d).hasDict = false)
  | .non, n, h => by simp [toPy, PyData.showable, PyData.depth, PyData.hasDict]
  | .bl _, n, h => by simp [toPy, PyData.showable, PyData.depth, PyData.hasDict]
  | .int i, n, h => by
    have : i.natAbs < 10 ^ 60 := by cases n <;> simpa [shows] using h
    simp [toPy, PyData.showable, PyData.depth, PyData.hasDict, log2_small this]
  | .str _, n, h => by simp [toPy, PyData.showable, PyData.depth, PyData.hasDict]
  | .tup ds, 0, h => by simp [shows] at h
  | .tup ds, n + 1, h => by
    simp only [shows, Bool.and_eq_true, List.all_eq_true] at h
    obtain ⟨a, b, c⟩ := pys_shows h.2
    simp only [toPy, PyData.showable, PyData.depth, PyData.hasDict]
    exact ⟨a, by omega, fun z => c (by simpa only [noDct] using z)⟩
  | .lst ds, 0, h => by simp [shows] at h
  | .lst ds, n + 1, h => by
    simp only [shows, Bool.and_eq_true, List.all_eq_true] at h
    obtain ⟨a, b, c⟩ := pys_shows h.2
    simp only [toPy, PyData.showable, PyData.depth, PyData.hasDict]
    exact ⟨a, by omega, fun z => c (by simpa only [noDct] using z)⟩
  | .dct ks us, 0, h => by cases ks <;> cases us <;> simp [shows] at h
  | .dct ks us, n + 1, h => by simp [toPy, PyData.showable, PyData.showableKv, PyData.depth, PyData.depthKv, noDct]
  | .obj _ _, n, h => by cases n <;> simp [shows] at h
  | .scr _, n, h => by cases n <;> simp [shows] at h
theorem pys_shows : ∀ {ds : List D} {n : Nat}, (∀ x ∈ ds, shows n x = true) → PyData.showableAll (toPys ds) = true ∧ PyData.depthAll (toPys ds) ≤ n ∧ (ds.all (noDct n) = true → PyData.hasDictAll (toPys ds) = false)
  | [], n, h => by simp [toPys, PyData.showableAll, PyData.depthAll, PyData.hasDictAll]
  | d :: ds, n, h => by
    obtain ⟨a, b, c⟩ := py_shows (h d List.mem_cons_self)
    obtain ⟨a2, b2, c2⟩ := pys_shows fun x hx => h x (List.mem_cons_of_mem _ hx)
    simp only [toPys, PyData.showableAll, PyData.depthAll, PyData.hasDictAll, a, a2, Bool.and_self, List.all_cons, Bool.and_eq_true]
    exact ⟨trivial, by omega, fun z => by rw [c z.1, c2 z.2]; rfl⟩
end
def rRepr (L : Lk) : List V → Hp → VK → Prop := fun xs H Q => ∃ x d, xs = [x] ∧ Rep L (fun _ => False) H d x ∧ shows 20 d = true ∧ (noLst 20 d || noDct 20 d) = true ∧ (toPy d).shown.length ≤ sizeLine ∧ Q (.str (toPy d).shown) H
theorem call_reprG (hK : X.K = L.K) (hg : X.A.guards = some []) (hu : X.A.units + 64 < cLine) : CallR X (.builtin "repr") (rRepr L) := by
  rintro pins s σ H xs us Q I r ⟨x, d, rfl, rd, hs, hn, hz, q⟩
  obtain ⟨u, rfl, ru⟩ := vals1 r
  have scal : ∀ (z : Str) (tk : Nat) (t : Tok), Q (.str z) H → EP X pins σ Q (.str z t) { s with toks := tk } := fun z tk t q => ⟨.str z, H, I.tok tk, ⟨t, rfl⟩, q⟩
  have big : ∀ a, u = .ref a → wpAny (model X.prog X.w) X.A (call (.builtin "repr") [u]) (EP X pins σ Q) X.xe s := by
    rintro a rfl
    obtain ⟨as, r1, r2⟩ := rep_reads I hK hs rd ru
    obtain ⟨c1, c2, c3⟩ := py_shows hs
    refine PySem.repr_of_reads' r1 c1 (fun hd => ?_) hg (by omega) (fun _ _ e => e) (fun h' t tk hk => ?_) hz
    · rcases Bool.or_eq_true _ _ |>.mp hn with z | z
      · exact r2 z
      · rw [c3 z] at hd; cases hd
    · exact ⟨.str _, H, I.kept (t' := tk) hk, ⟨t, rfl⟩, q⟩
  cases d with
  | non => simp only [Rep] at rd; subst rd; cases ru; exact PySem.P.repr_of_none (scal _ _ _ q)
  | bl b => simp only [Rep] at rd; subst rd; cases ru; exact PySem.P.repr_of_bool (scal _ _ _ q)
  | int i =>
    simp only [Rep] at rd; subst rd; obtain ⟨t, rfl⟩ := ru
    have : i.natAbs < 10 ^ 60 := by simpa [shows] using hs
    exact PySem.P.repr_of_int (log2_small this) (scal _ _ _ q)
  | str z => simp only [Rep] at rd; subst rd; obtain ⟨t, rfl⟩ := ru; exact PySem.P.repr_of_str (scal _ _ _ q) hz
  | tup ds => simp only [Rep] at rd; obtain ⟨p, vs, rfl, _⟩ := rd; exact big p ru
  | lst ds => simp only [Rep] at rd; obtain ⟨p, vs, rfl, _⟩ := rd; exact big p ru
  | dct ks us => simp only [Rep] at rd; obtain ⟨p, vs, rfl, _⟩ := rd; exact big p ru
  | obj _ _ => simp [shows] at hs
  | scr _ => simp [shows] at hs
theorem c_repr : Call1S L (rRepr L) .repr_ := by
  intro B H x a z Q hx e k
  have e' : (if shows 20 a && (noLst 20 a || noDct 20 a) && decide ((toPy a).shown.length ≤ lim) then oStr (toPy a).shown else none) = some z := by
    cases a <;> exact e
  split at e'
  · rename_i h
    simp only [Bool.and_eq_true, decide_eq_true_eq] at h
    cases e'
    exact ⟨x, a, rfl, root_rep hx, h.1.1, h.1.2, lim_line h.2, k _ _ (post_same (B := B) rep_str)⟩
  · cases e'
end
end Sb

set_option Elab.async false
set_option linter.all false
set_option maxRecDepth 100000
/-! t[::-1] of a tuple. -/
namespace Sb
open PySem PySem.Spec PyProof.Rows L2
section
open PySem.SeqAt
open PySem.AutoSeq1 (wpAny_loadPart')
open PySem.MeetsSeq PySem.MeetsSeq2 PySem.MeetsSeq3
variable {prog : Program} {w : World} {A : Around} {E : Value → Shared → Prop} {s : Shared}
theorem adj_rev (n : Nat) : Builtin.Slice.sliceAdjust none none (-1) (n : Int) = ((n : Int) - 1, -1) := by
  unfold Builtin.Slice.sliceAdjust
  rfl
theorem plc_rev (n : Nat) : Builtin.Slice.slicePlaces ((n : Int) - 1) (-1) (-1) = n := by
  unfold Builtin.Slice.slicePlaces
  have h1 : ¬ ((-1 : Int) > 0) := by decide
  rw [if_neg h1]
  by_cases h : n = 0
  · subst h; rfl
  · rw [if_pos (by omega)]
    show ((((n : Int) - 1 - -1 - 1) / 1) + 1).toNat = n
    rw [Int.ediv_one]
    omega
theorem sl_rev {sl : Addr} {vl vu vs : Value} {n : Nat} {Q : Int × Int × Nat → Shared → Prop} (hs : s.heap.IsSliceOf sl vl vu vs) (pl : IsPart vl none) (pu : IsPart vu none) (ps : IsPart vs (some (-1)))
    (h : Q ((n : Int) - 1, -1, n) s) : wpAny (model prog w) A (Builtin.Slice.sliceApplied (.ref sl) (pure (n : Int))) Q E s := by
  obtain ⟨os, hos, hcs, hds⟩ := id hs
  unfold Builtin.Slice.sliceApplied Builtin.Slice.sliceFields
  refine wpAny_bind (wpAny_bind (wpAny_field hos hds (x := vl) rfl (wpAny_bind (wpAny_field hos hds (x := vu) rfl (wpAny_bind (wpAny_field hos hds (x := vs) rfl (wpAny_pure ?_)))))))
  refine wpAny_bind (HT.slicePart_ ps ?_)
  show wpAny _ _ (if ((-1 : Int) == 0) = true then _ else _) _ _ s
  rw [if_neg (by decide)]
  refine wpAny_bind (HT.slicePart_ pl (wpAny_bind (HT.slicePart_ pu (wpAny_bind (wpAny_pure ?_)))))
  show wpAny _ _ (match Builtin.Slice.sliceAdjust none none (-1) (n : Int) with | (lo, hi) => pure (lo, (-1 : Int), Builtin.Slice.slicePlaces lo hi (-1))) _ _ s
  rw [adj_rev n]
  show wpAny _ _ (pure ((n : Int) - 1, (-1 : Int), Builtin.Slice.slicePlaces ((n : Int) - 1) (-1) (-1))) _ _ s
  rw [plc_rev]
  exact wpAny_pure h
theorem pick_rev (xs : Array Value) : ((List.range xs.size).filterMap fun (m : Nat) => xs[(((xs.size : Int) - 1) + (m : Int) * (-1)).toNat]?).toArray = xs.toList.reverse.toArray := by
  congr 1
  have fm : ∀ (l : List Nat) (f g : Nat → Option Value), (∀ m ∈ l, f m = g m) → l.filterMap f = l.filterMap g := fun l f g h => by
    induction l with
    | nil => rfl
    | cons a l ih =>
      rw [List.filterMap_cons, List.filterMap_cons, h a List.mem_cons_self, ih fun m hm => h m (List.mem_cons_of_mem _ hm)]
  have all : ∀ l : List Value, (List.range l.length).filterMap (fun m => l[m]?) = l := fun l => by
    induction l with
    | nil => rfl
    | cons a l ih =>
      rw [List.length_cons, List.range_succ_eq_map, List.filterMap_cons]
      simp only [List.getElem?_cons_zero, List.filterMap_map]
      have : ((fun m => (a :: l)[m]?) ∘ Nat.succ) = fun m => l[m]? := by funext m; simp
      rw [this, ih]
  have rv := all xs.toList.reverse
  rw [List.length_reverse, Array.length_toList] at rv
  refine (fm _ _ (fun m => xs.toList.reverse[m]?) fun m hm => ?_).trans rv
  have hm' : m < xs.size := List.mem_range.mp hm
  rw [List.getElem?_reverse (by simpa using hm')]
  have e : (((xs.size : Int) - 1) + (m : Int) * (-1)).toNat = xs.toList.length - 1 - m := by
    rw [Array.length_toList]; omega
  rw [e]
  simp
theorem getItem_tup_rev {t sl : Addr} {items : Array Value} {vl vu vs : Value} {Q : Value → Shared → Prop} (ht : IsTup s.heap t items) (hs : s.heap.IsSliceOf sl vl vu vs) (pl : IsPart vl none) (pu : IsPart vu none) (ps : IsPart vs (some (-1)))
    (h : Q (.ref s.heap.objs.size) { s with heap := s.heap.push { cls := .type "tuple", data := .seq items.toList.reverse.toArray } }) (hsz : items.size ≤ sizeLine) : wpAny (model prog w) A (getItem (.ref t) (.ref sl)) Q E s := by
  have ok : sizeOk (.seq items.toList.reverse.toArray) := by
    show items.toList.reverse.toArray.size ≤ sizeLine
    rw [List.size_toArray, List.length_reverse, Array.length_toList]
    exact hsz
  obtain ⟨os, hos, hcs, hds⟩ := id hs
  have isSl : s.TypeIs (.ref sl) "slice" := ⟨os, hos, hcs⟩
  unfold getItem
  try with_reducible refine wpAny_holding ?_
  first | refine wpAny_bind (wpAny_pure ?_) | skip
  refine wpAny_bind (wpAny_sequenceKey ht.typeIs (by decide) ?_)
  refine wpAny_bind (wpAny_callSpecial?_slot (name := Str.ofString "__getitem__") ht.typeIs PyProof.Rows.slot_tuple_getitem
    (wpAny_call_entry PyProof.Rows.slot_tuple_getitem ht.typeIs entry_tuple_getitem ?body (args_tuple_getitem _ _)))
  show wpAny _ _ (Builtin.Tuple.tupleItemsOf (.ref t) >>= _) _ _ s
  refine wpAny_bind (tupleItemsOf_ ht ?_)
  refine wpAny_bind (wpAny_typeOf isSl ?_)
  rw [if_pos (by decide)]
  refine wpAny_bind (sl_rev hs pl pu ps ?_)
  show wpAny _ _ (if (((items.size : Int) - 1) == 0 && (-1 : Int) == 1 && items.size == items.size) = true then _ else _) _ _ s
  rw [if_neg (by simp), pick_rev]
  first
    | exact wpAny_bind (m := Builtin.Tuple.tupleExact _) (wpAny_newObj_type (wpAny_pure ⟨_, rfl, wpAny_pure h⟩) ok)
    | exact wpAny_bind (m := Builtin.Tuple.tupleExact _) (wpAny_newObj_type (wpAny_bind (wpAny_pure (wpAny_pure ⟨_, rfl, wpAny_pure h⟩))) ok)
    | exact wpAny_bind (wpAny_bind (m := Builtin.Tuple.tupleExact _) (wpAny_newObj_type (wpAny_pure (wpAny_pure ⟨_, rfl, wpAny_pure h⟩)) ok))
    | exact wpAny_bind (wpAny_bind (m := Builtin.Tuple.tupleExact _) (wpAny_newObj_type (wpAny_pure ⟨_, rfl, wpAny_pure h⟩) ok))
end
section
variable {X : Cx}
def tRevG (K : PySem.W.Frag) (te : TE) : TE := fun σ H Q => te σ H fun x H1 => ∃ a xs, x = .ref a ∧ ((SqL K H1 a xs ∧ ∀ p, H1 p = none → Q (.ref p) (upd H1 p (.lst xs.reverse))) ∨ (SqT K H1 a xs ∧ ∀ p, H1 p = none → Q (.ref p) (upd H1 p (.tup xs.reverse))))
theorem pe_revG {e : Expr} {te : TE} {k : Nat} {p1 p2 p3 pos : Pos} (he : PE X e te) : PE X (.Subscript e (.Slice none none (some (.UnaryOp .USub (.Constant (.int 1) k p1) p2)) p3) pos) (tRevG X.K te) := by
  constructor
  intro pins s σ H Q I h
  refine Subscript_ (thn (he.run pins s σ H _ I h) ?_)
  rintro v s1 ⟨x, H1, I1, r1, a, xs, rfl, q⟩
  cases r1
  have part : PO X (some (.UnaryOp .USub (.Constant (.int 1) k p1) p2)) (tPart (tUn (rU fun i => .int (-i)) (tC (.int 1)))) := po_some (pe_un un_neg pe_int)
  refine wpAny_Slice (thn (po_none.run pins s1 σ H1 (fun o H2 => o = none ∧ H2 = H1) I1 ⟨rfl, rfl⟩) ?_)
  rintro vl s2 ⟨_, _, I2, pl, rfl, rfl⟩
  refine thn (po_none.run pins s2 σ _ (fun o H3 => o = none ∧ H3 = _) I2 ⟨rfl, rfl⟩) ?_
  rintro vu s3 ⟨_, _, I3, pu, rfl, rfl⟩
  refine thn (part.run pins s3 σ _ (fun o H4 => o = some (-1) ∧ H4 = _) I3 ⟨1, rfl, -1, rfl, rfl, rfl⟩) ?_
  rintro vs s4 ⟨_, H4, I4, ps, rfl, rfl⟩
  have I5 : Inv X pins σ _ { s4 with heap := s4.heap.push { cls := .type "slice", data := .fields #[vl, vu, vs] } } := I4.kept (t' := s4.toks) fun b ob q => Heap.get?_push_of_some _ q
  show wpAny (model X.prog X.w) X.A (subscriptTail e (.Slice none none (some (.UnaryOp .USub (.Constant (.int 1) k p1) p2)) p3) (.ref a) (.ref s4.heap.objs.size)) (EP X pins σ Q) X.xe { s4 with heap := s4.heap.push { cls := .type "slice", data := .fields #[vl, vu, vs] } }
  rcases q with ⟨hx, q⟩ | ⟨hx, q⟩
  · obtain ⟨its, r, ht, hz⟩ := I5.list hx
    have hlen := r.length
    refine tail_any (ops := [.ref a, .ref s4.heap.objs.size]) ht.isList.typeIs (PySem.slot_list_getitem.lookup) ?_ (by with_unfolding_all rfl)
    refine wpAny_getItem_list_slice ht.isList (Heap.IsSliceOf.new _ vl vu vs) pl pu ps (by decide) ?_ (by rw [List.size_toArray]; omega)
    rw [PySem.W.krv_pick]
    exact ⟨.ref _, _, I5.laid (t' := s4.toks) (o := .lst xs.reverse) (fun b ob q => Heap.get?_push_of_some _ q) (Nat.le_refl _) (show ObjOk X.prog X.w _ _ _ (.lst xs.reverse) from ⟨by rw [List.length_reverse]; exact hz, _, 0, r.reverse, Heap.get?_push_size _ rfl⟩), rfl, q _ (I5.hok.fresh (Nat.le_refl _))⟩
  · obtain ⟨its, r, ht, hz⟩ := I5.tuple hx
    have hlen := r.length
    refine tail_any (ops := [.ref a, .ref s4.heap.objs.size]) ht.typeIs (PyProof.Rows.slot_tuple_getitem.lookup) ?_ (by with_unfolding_all rfl)
    refine getItem_tup_rev ht (Heap.IsSliceOf.new _ vl vu vs) pl pu ps ?_ (by rw [List.size_toArray]; omega)
    exact ⟨.ref _, _, I5.laid (t' := s4.toks) (o := .tup xs.reverse) (fun b ob q => Heap.get?_push_of_some _ q) (Nat.le_refl _) (show ObjOk X.prog X.w _ _ _ (.tup xs.reverse) from ⟨by rw [List.length_reverse]; exact hz, _, r.reverse, IsTup.new _ _⟩), rfl, q _ (I5.hok.fresh (Nat.le_refl _))⟩
theorem u_rev {L : Lk} : Op1S L (fun x H Q => ∃ a xs, x = .ref a ∧ ((SqL L.K H a xs ∧ ∀ p, H p = none → Q (.ref p) (upd H p (.lst xs.reverse))) ∨ (SqT L.K H a xs ∧ ∀ p, H p = none → Q (.ref p) (upd H p (.tup xs.reverse))))) .rev := by
  intro B H x a z Q hx e k
  cases a <;> simp only [op1D, reduceCtorEq] at e
  · cases e
    obtain ⟨p, vs, ex, hp, r⟩ := root_tup hx
    exact ⟨p, vs, ex, .inr ⟨hp, fun q hq => k _ _ (post_tup hq r.rev)⟩⟩
  · cases e
    obtain ⟨p, vs, ex, hp, r⟩ := root_lst hx
    exact ⟨p, vs, ex, .inl ⟨.of hp, fun q hq => k _ _ (post_lst hq r.rev)⟩⟩
end
end Sb

set_option Elab.async false
set_option linter.all false
set_option maxRecDepth 100000
/-! All defs of the text keep what the language tells of them. -/
namespace Sb
open PySem PySem.Spec PyProof.Rows L2
def lvl (n : Nat) : Nat := 4 * n + 4
/-- a def of the text, and what it is in the language -/
structure DefOk (K : PySem.W.Frag) (LT : List (Addr × Str)) (base : Heap) (mg : Str → Option Value) (g : GI) (T : Nat → Option Def) (f : Nat) (a : Addr) : Prop where
  ex : ∃ (lm : Bool) (name qual : Str) (params : Arguments) (body : List Stmt) (scope : Scope) (dV kV doc pm cdv ct oc : Value) (an od : Option Addr) (osl : Array (Option Value)) (N ps : List Str) (m : Nat),
    K.lookup a = some ⟨oc, od, .func (PySem.W.fnOf name qual params body scope dV kV doc pm an cdv ct), osl⟩ ∧ PySem.W.codeIn K cdv qual = true ∧ FnScope N ps scope ∧
    Binds K (PySem.W.fnOf name qual params body scope dV kV doc pm an cdv ct) ps [] ∧ T f = some ⟨ps.length, N.length, compSs m ⟨g, N, scope, fun _ => true, lm⟩ body⟩ ∧ (lm = true → MkTab LT base mg cdv (qual ++ ".<locals>."))
  keep : PySem.W.keepIn K (.ref a) = true
/-- what the module holds -/
structure TextOk (L : Lk) (base : Heap) (mg : Str → Option Value) (g : GI) (T : Nat → Option Def) : Prop where
  fn : ∀ x f, g.fn.lookup x = some f → ∃ a, mg x = some (.ref a) ∧ DefOk L.K L.T base mg g T f a
  wd : ∀ x w, g.lam.lookup x = some w → WordOk L.K mg L.ca x w
  blt : ∀ x ∈ bltN, mg x = none
  cst : ∀ x d, g.cst.lookup x = some d → ∃ v u, mg x = some u ∧ RelV v u ∧ ∀ B H, Rep L B H d v
  exc : ∀ x i, g.exc.lookup x = some i → ∃ bmB B newId initId, ExcBaseFacts B newId initId bmB ∧ PySem.W.excIn L.K (L.ca i) bmB newId = true ∧ mg x = some (.ref (L.ca i)) ∧ PySem.W.keepIn L.K (.ref (L.ca i)) = true ∧
    PySem.W.subIn L.K (.ref (L.ca i)) (.type "BaseException") = some true ∧ PySem.W.typeIn L.K (.ref (L.ca i)) = some (.type "type")
theorem guards_deeper (A : Around) (env : PySem.Env) : (A.deeper env).guards = A.guards := rfl
section
variable {P : Program} {w : World} {L : Lk} {mg : Str → Option Value} {base : Heap} {g : GI} {T : Nat → Option Def} {sub : Nat → Nat → Bool} {wf : Nat}
theorem def_step {n : Nat} (Z : ∀ C : Cal, Extra C sub L) (X : TextOk L base mg g T) (IH : ∀ f a, DefOk L.K L.T base mg g T f a → ∃ fd ps, Binds L.K fd ps [] ∧ FnG P w L.K mg base (lvl n) a fd ps (spD L (callD T sub wf n f)))
    {f : Nat} {a : Addr} {lm : Bool} {name qual : Str} {params : Arguments} {body : List Stmt} {scope : Scope} {dV kV doc pm cdv ct oc : Value} {an od : Option Addr} {osl : Array (Option Value)} {N ps : List Str} {m : Nat}
    (h1 : L.K.lookup a = some ⟨oc, od, .func (PySem.W.fnOf name qual params body scope dV kV doc pm an cdv ct), osl⟩) (h2 : PySem.W.codeIn L.K cdv qual = true) (h3 : FnScope N ps scope) (h5 : T f = some ⟨ps.length, N.length, compSs m ⟨g, N, scope, fun _ => true, lm⟩ body⟩) (h6 : lm = true → MkTab L.T base mg cdv (qual ++ ".<locals>.")) :
    FnG P w L.K mg base (lvl (n + 1)) a (PySem.W.fnOf name qual params body scope dV kV doc pm an cdv ct) ps (spD L (callD T sub wf (n + 1) f)) := by
  have hcall : ∀ ss, callD T sub wf (n + 1) f ss = runDef (callD T sub wf n) sub wf ⟨ps.length, N.length, compSs m ⟨g, N, scope, fun _ => true, lm⟩ body⟩ ss := fun ss => by
    show (match T f with | some df => runDef (callD T sub wf n) sub wf df ss | none => .bad) = _
    rw [h5]
  have hsp : ∀ vs H Q E, spD L (callD T sub wf (n + 1) f) vs H Q E → spD L (runDef (callD T sub wf n) sub wf ⟨ps.length, N.length, compSs m ⟨g, N, scope, fun _ => true, lm⟩ body⟩) vs H Q E := by
    rintro vs H Q E ⟨fl, A, ss, os, r, hp, w⟩
    exact ⟨fl, A, ss, os, r, hp, by rw [← hcall]; exact w⟩
  refine fnG_of (k := 4 * n + 7) h1 h2 h3 (fun vs H Q E q => (body_ok rfl rfl (hsp vs H Q E q)).1) fun A outer s H vs Q E hr hgu q => ?_
  obtain ⟨_, hb⟩ := body_ok (ps := ps) (N := N) rfl rfl (hsp vs H Q E q)
  refine ⟨_, (soundS (wf := wf) (Z (callD T sub wf n)) m).Ss E ⟨g, N, scope, fun _ => true, lm⟩ _ (k := lvl n + 2) ⟨⟨rfl, rfl, h3.nd, rfl, fun _ _ => rfl, rfl, ?_, hr.mono (by unfold lvl; omega), takes_of rfl rfl rfl rfl, fun x f' hx => ?_, fun _ => by omega, X.wd, h6, X.blt, X.cst⟩, passes_of rfl, fun x i hx => ?_⟩ _, hb⟩
  · exact hgu
  · obtain ⟨a', m1, m2⟩ := X.fn x f' hx
    obtain ⟨fd, ps', b', F⟩ := IH f' a' m2
    exact ⟨a', fd, ps', lvl n, m1, m2.keep, b', F, by split <;> omega⟩
  · obtain ⟨bmB, B, nI, iI, F, q1, q2, q3, q4, q5⟩ := X.exc x i hx
    exact ⟨bmB, B, nI, iI, F, q1, q2, q3, raises_own q4 q5⟩
theorem all_defs (Z : ∀ C : Cal, Extra C sub L) (X : TextOk L base mg g T) : ∀ n f a, DefOk L.K L.T base mg g T f a → ∃ fd ps, Binds L.K fd ps [] ∧ FnG P w L.K mg base (lvl n) a fd ps (spD L (callD T sub wf n f))
  | 0, f, a, h => by
    obtain ⟨lm, name, qual, params, body, scope, dV, kV, doc, pm, cdv, ct, oc, an, od, osl, N, ps, m, h1, h2, h3, h4, h5, h6⟩ := h.ex
    have no : ∀ vs H Q E, ¬ spD L (callD T sub wf 0 f) vs H Q E := fun vs H Q E ⟨fl, A, ss, os, _, _, w⟩ => w
    exact ⟨_, ps, h4, ⟨fun vs H Q E q => (no vs H Q E q).elim, fun A outer s H args us vs Q E _ _ _ _ _ q => (no vs H Q E q).elim⟩⟩
  | n + 1, f, a, h => by
    obtain ⟨lm, name, qual, params, body, scope, dV, kV, doc, pm, cdv, ct, oc, an, od, osl, N, ps, m, h1, h2, h3, h4, h5, h6⟩ := h.ex
    exact ⟨_, ps, h4, def_step Z X (all_defs Z X n) h1 h2 h3 h5 h6⟩
end
end Sb

set_option Elab.async false
set_option linter.all false
set_option maxRecDepth 100000
/-! The end of a law's row, by a promise of FnG. -/
namespace Sb
open PySem PySem.Spec PyProof.Rows L2
theorem law_end {P : Program} {w : World} {K : PySem.W.Frag} {mg mb : Str → Option Value} {k : Nat} {fa a : Addr} {cs : List (Addr × Addr)} {fd : FuncData} {x : Str} {sp : Sp} {s1 : Shared} {vs : List Value} {ns : List Int}
    (inK : K.In s1.heap) (gl : s1.heap.Ns mainGlobals mg) (bl : s1.heap.Ns builtinsNs mb) (bb : ∀ x : Str, x ≠ "__name__" → mb x = bootBuiltins x) (nol : s1.heap.NoLimit) (gens : s1.gens = #[])
    (tabs : ∀ p ∈ cs, s1.heap.get? p.2 = some { cls := .none, data := .fields #[] }) (ntab : ∀ p ∈ cs, K.lookup p.2 = none) (heads : ∀ p ∈ cs, PySem.W.CodeHd s1.heap p.1 p.2)
    (bm : ∃ (m : Addr) (ob : Obj), mg "__builtins__" = some (.ref m) ∧ m ≠ builtinsNs ∧ s1.heap.get? m = some ob ∧ ob.cls = .type "module" ∧ ob.dict = some builtinsNs ∧ ob.data = .plain)
    (ha : s1.heap.get? a = some { cls := .type "list", data := .seq vs.toArray }) (hi : IntsAre vs ns) (hl : ns.length ≤ sizeLine) (room : Room k callerA)
    (F : ∀ base : Heap, K.In base → base.Ns mainGlobals mg → (∀ p ∈ cs, LamX.TabB base mg p.1 p.2) → FnG P w K mg base k fa fd [x] sp) (hbind : ∀ (s : Shared) (u : Value), BindsTo s fd ⟨[u], []⟩ [(x, u)])
    (hsp : ∀ H : Hp, (∀ p ∈ cs, H p.2 = some (.tbl #[])) → SqL K H a (ns.map V.int) → (∃ o, H a = some (.frz o (.lst (ns.map V.int)))) ∨ (∃ (o : Obj) (its : Array Value) (n : Nat), K.lookup a = some o ∧ o.cls = .type "list" ∧ o.dict = none ∧ o.data = .seq its n ∧ its.size ≤ sizeLine ∧ Vals (ns.map V.int) its.toList) →
      sp [.ref a] H (fun v _ => v = .bl true) fun _ _ _ => False) :
    codeAny (model P w) callerA (.call (.ref fa) ⟨[.ref a], []⟩) (fun r s' => r = .ok (.ret (.bool true)) ∧ OldK s1.heap s'.heap ∧ s'.os = s1.os ∧ AllBare s'.gens) s1 := by
  classical
  have rv : Vals (ns.map V.int) vs := vals_ints hi
  have lenV : vs.length = ns.length := hi.length
  obtain ⟨ts, hts⟩ : ∃ ts : List Addr, ts = cs.map (·.2) := ⟨_, rfl⟩
  have inTs : ∀ p ∈ cs, p.2 ∈ ts := fun p hp => by rw [hts]; exact List.mem_map.mpr ⟨p, hp, rfl⟩
  have ofTs : ∀ b ∈ ts, ∃ p ∈ cs, p.2 = b := fun b hb => by rw [hts] at hb; exact List.mem_map.mp hb
  have tabAt : ∀ b ∈ ts, s1.heap.get? b = some { cls := .none, data := .fields #[] } := fun b hb => by
    obtain ⟨p, hp, rfl⟩ := ofTs b hb
    exact tabs p hp
  have aTs : a ∉ ts := fun z => by
    have q := (tabAt a z).symm.trans ha
    exact nomatch congrArg Obj.data (Option.some.inj q)
  let so : Obj := { cls := .type "list", data := .seq vs.toArray }
  obtain ⟨H, hH⟩ : ∃ H : Hp, H = fun b => if b ∈ ts then some (.tbl #[]) else if b = a ∧ K.lookup a = none then some (.frz so (.lst (ns.map V.int))) else none := ⟨_, rfl⟩
  have H_t : ∀ b ∈ ts, H b = some (.tbl #[]) := fun b hb => by rw [hH]; exact if_pos hb
  have H_a : K.lookup a = none → H a = some (.frz so (.lst (ns.map V.int))) := fun q => by
    rw [hH]
    show (if a ∈ ts then _ else _) = _
    rw [if_neg aTs, if_pos ⟨rfl, q⟩]
  have H_no : ∀ b, b ∉ ts → (b = a → K.lookup a ≠ none) → H b = none := fun b h1 h2 => by
    rw [hH]
    show (if b ∈ ts then _ else _) = _
    rw [if_neg h1, if_neg fun z => h2 z.1 z.2]
  have H_cases : ∀ b, H b = none ∨ b ∈ ts ∨ (b = a ∧ K.lookup a = none) := fun b => by
    by_cases h1 : b ∈ ts
    · exact .inr (.inl h1)
    · by_cases h2 : b = a ∧ K.lookup a = none
      · exact .inr (.inr h2)
      · exact .inl (H_no b h1 fun e q => h2 ⟨e, q⟩)
  have okH : HOk P w H s1.heap := fun b o e => by
    rcases H_cases b with z | z | ⟨rfl, z⟩
    · rw [z] at e; cases e
    · rw [H_t b z] at e; cases e
      exact tabAt b z
    · rw [H_a z] at e; cases e
      exact ⟨ha, by rw [List.length_map]; exact hl, vs, _, rv, ha⟩
  -- what is neither a list nor an empty table is not tracked
  have clear : ∀ {b : Addr} {o : Obj}, s1.heap.get? b = some o → (∀ v n, o.data ≠ .seq v n) → o.data ≠ .fields #[] → H b = none := fun {b o} e h1 h2 => by
    rcases H_cases b with z | z | ⟨rfl, z⟩
    · exact z
    · have q := (tabAt b z).symm.trans e
      rw [← Option.some.inj q] at h2
      exact absurd rfl h2
    · have q := ha.symm.trans e
      rw [← Option.some.inj q] at h1
      exact absurd rfl (h1 _ _)
  have clearD : ∀ {b : Addr} {o : Obj} {es : Array DictEntry} {ep : Nat}, s1.heap.get? b = some o → o.data = .dict es ep → H b = none := fun e d =>
    clear e (fun v n z => nomatch d.symm.trans z) fun z => nomatch d.symm.trans z
  have keepNs : ∀ {b : Addr} {m : Str → Option Value}, s1.heap.Ns b m → (hidT s1.heap H).Ns b m := by
    rintro b m ⟨o, es, ep, e, d, r⟩
    exact ⟨o, es, ep, hidT_get e (clearD e d), d, r⟩
  have keepK : K.In (hidT s1.heap H) := fun b o e => hidT_get (inK b o e) (by
    rcases H_cases b with z | z | ⟨rfl, z⟩
    · exact z
    · obtain ⟨p, hp, rfl⟩ := ofTs b z
      exact nomatch (ntab p hp).symm.trans e
    · exact nomatch z.symm.trans e)
  have md : L2.Mod K mg (hidT s1.heap H) := by
    obtain ⟨mc, n1, n2⟩ := nol
    exact ⟨keepK, keepNs gl, ⟨mb, keepNs bl, bb⟩, ⟨mc, keepNs n1, n2⟩⟩
  have tabB : ∀ p ∈ cs, LamX.TabB (hidT s1.heap H) mg p.1 p.2 := fun p hp => by
    have tp := tabs p hp
    refine ⟨?_, ?_, ?_⟩
    · obtain ⟨o, us, file, tf, flags, tg, inF, text, tt, c1, c2, c3, c4, c5, c6, c7, c8, c9⟩ := heads p hp
      refine ⟨o, us, file, tf, flags, tg, inF, text, tt, hidT_get c1 (clear c1 (fun v n z => nomatch c3.symm.trans z) fun z => ?_), c2, c3, c4, c5, c6, c7, c8, c9⟩
      have q := c3.symm.trans z
      cases q
      simp at c4
    · obtain ⟨m, ob, b1, b2, b3, b4, b5, b6⟩ := bm
      refine ⟨m, ob, b1, b2, ?_, ?_, hidT_get b3 (clear b3 (fun v n z => nomatch b6.symm.trans z) fun z => nomatch b6.symm.trans z), b4, b5, b6⟩
      · rintro rfl
        obtain ⟨o, es, ep, e, d, _⟩ := gl
        have q := e.symm.trans b3
        rw [Option.some.inj q] at d
        exact nomatch d.symm.trans b6
      · rintro rfl
        have q := tp.symm.trans b3
        rw [← Option.some.inj q] at b6
        exact nomatch b6
    · intro z
      obtain ⟨o, es, ep, e, d, _⟩ := gl
      rw [z] at e
      have q := tp.symm.trans e
      rw [← Option.some.inj q] at d
      exact nomatch d
  have e0 : Env0 P w K mg (hidT s1.heap H) callerA [] s1 H := by
    refine ⟨rfl, md, fun b o e => of_hidT e, Nat.le_of_eq (hidT_size _ _), trivial, ?_, okH, .of_eq gens⟩
    intro b hb
    exact absurd (show b ∈ ([] : List Addr) from hb) List.not_mem_nil
  have both : SqL K H a (ns.map V.int) ∧ ((∃ o, H a = some (.frz o (.lst (ns.map V.int)))) ∨ (∃ (o : Obj) (its : Array Value) (n : Nat), K.lookup a = some o ∧ o.cls = .type "list" ∧ o.dict = none ∧ o.data = .seq its n ∧ its.size ≤ sizeLine ∧ Vals (ns.map V.int) its.toList)) := by
    cases q : K.lookup a with
    | none => exact ⟨.inl (.inr ⟨so, H_a q⟩), .inl ⟨so, H_a q⟩⟩
    | some o =>
      have e := Option.some.inj ((inK a o q).symm.trans ha)
      have fin : ∃ (o' : Obj) (its : Array Value) (n : Nat), K.lookup a = some o' ∧ o'.cls = .type "list" ∧ o'.dict = none ∧ o'.data = .seq its n ∧ its.size ≤ sizeLine ∧ Vals (ns.map V.int) its.toList :=
        ⟨so, vs.toArray, _, by rw [q, e], rfl, rfl, rfl, by rw [List.size_toArray, lenV]; exact hl, by simpa using rv⟩
      rw [← q]
      exact ⟨.inr fin, .inr fin⟩
  refine codeAny_mono ((F _ keepK (keepNs gl) tabB).run callerA [] s1 H ⟨[.ref a], []⟩ [.ref a] [.ref a] _ _ room rfl e0 (hbind s1 (.ref a)) (.cons rfl .nil) (hsp H (fun p hp => H_t _ (inTs p hp)) both.1 both.2)) ?_
  intro r s' h
  cases r with
  | error e =>
    obtain ⟨_, _, _, _, _, _, _, _, _, _, _, _, z⟩ := h
    exact z.elim
  | ok fl =>
    cases fl with
    | ret u =>
      obtain ⟨v, H', os, bare, un, ok', r', rfl⟩ := h
      cases (show u = Value.bool true from r')
      have grown : ∀ b ∈ ts, ∃ more : Array Value, s'.heap.get? b = some { cls := .none, data := .fields more } := fun b hb => by
        obtain ⟨more, z⟩ := un.tbls b #[] (H_t b hb)
        exact ⟨_, ok' b _ z⟩
      have stays : ∀ b o, b ∉ ts → s1.heap.get? b = some o → s'.heap.get? b = some o := fun b o nb e => by
        rcases H_cases b with z | z | ⟨rfl, z⟩
        · exact un.keep b o e z (by intro y; exact absurd (show b ∈ ([] : List Addr) from y) List.not_mem_nil) List.not_mem_nil
        · exact absurd z nb
        · have y := (ok' b _ (un.frzs b so _ (H_a z))).1
          rw [← Option.some.inj (ha.symm.trans e)]
          exact y
      refine ⟨rfl, ⟨fun b o e => ?_, fun b o e => ?_⟩, os, bare⟩
      · by_cases hb : b ∈ ts
        · obtain ⟨more, hm⟩ := grown b hb
          obtain ⟨p, hp, rfl⟩ := ofTs b hb
          have q := Option.some.inj ((tabs p hp).symm.trans e)
          subst q
          exact .inr (.inl ⟨((heads p hp).tab (tabs p hp)).isCodeTable, rfl, #[], more, rfl, by simpa using hm⟩)
        · exact .inl (stays b o hb e)
      · by_cases hb : b ∈ ts
        · obtain ⟨more, hm⟩ := grown b hb
          exact ⟨_, hm⟩
        · exact ⟨o, stays b o hb e⟩
    | _ => exact False.elim h
end Sb

set_option Elab.async false
set_option linter.all false
set_option maxRecDepth 100000
/-! The end of a law's row, by what the language tells of the law. -/
namespace Sb
open PySem PySem.Spec PyProof.Rows L2
theorem law_sp {L : Lk} {T : Nat → Option Def} {sub : Nat → Nat → Bool} {wf n f : Nat} {ns : List Int} {H : Hp} {a : Addr} {ss' : List Slot} (ht : ∀ p ∈ L.T, H p.1 = some (.tbl #[]))
    (hs : (∃ o, H a = some (.frz o (.lst (ns.map V.int)))) ∨ (∃ (o : Obj) (its : Array Value) (n : Nat), L.K.lookup a = some o ∧ o.cls = .type "list" ∧ o.dict = none ∧ o.data = .seq its n ∧ its.size ≤ sizeLine ∧ Vals (ns.map V.int) its.toList))
    (h : callD T sub wf n f [.shr false (.scr ns)] = .ok false (.bl true) ss') : spD L (callD T sub wf n f) [.ref a] H (fun v _ => v = .bl true) fun _ _ _ => False := by
  refine ⟨[false], fun _ => False, [.shr false (.scr ns)], [[]], ⟨rfl, rfl, rfl, fun i s hi => ?_, fun i j o o' x h1 h2 h3 h4 => ?_, fun x z => z.elim, fun x z => z.elim, fun p hp => LamX.TabS.nil (ht p hp)⟩, fun s hm => ?_, ?_⟩
  · cases i with
    | zero =>
      simp only [List.getElem?_cons_zero, Option.some.injEq] at hi
      subst hi
      refine ⟨some (.ref a), [], rfl, rfl, rfl, .ref a, rfl, ?_⟩
      simp only [Rep]
      rcases hs with ⟨o, z⟩ | z
      · exact ⟨a, o, rfl, .inl z⟩
      · obtain ⟨o, r⟩ := z
        exact ⟨a, o, rfl, .inr ⟨o, r⟩⟩
    | succ i => simp at hi
  · have e1 : o = [] := by
      cases i with
      | zero => simpa using h1.symm
      | succ i => simp at h1
    rw [e1] at h3; cases h3
  · have e1 : s = .shr false (.scr ns) := by simpa using hm
    rw [e1]; rfl
  · rw [h]
    intro v H' os' ⟨A', _, _, _, _, r⟩
    rw [if_neg (by decide)] at r
    simpa only [Rep] using r
/-- what is known of the law at the head's heap h -/
def LawAtG (l : PySem.W.OpenLaw) (w : World) (K : PySem.W.Frag) (k n : Nat) (x : Str) (mg : Str → Option Value) (fa : Addr) (h : Heap) : Prop :=
  ∃ (fd : FuncData) (cs : List (Addr × Addr)) (sp : Sp), (∀ p ∈ cs, h.get? p.2 = some { cls := .none, data := .fields #[] }) ∧ (∀ p ∈ cs, K.lookup p.2 = none) ∧ (∀ p ∈ cs, PySem.W.CodeHd h p.1 p.2) ∧ (∀ (s : Shared) (u : Value), BindsTo s fd ⟨[u], []⟩ [(x, u)]) ∧
    (∀ (H : Hp) (a : Addr) (ns : List Int), ns.length ≤ n → (∀ z ∈ ns, Builtin.Int.intBits z ≤ 1048576) → (∀ p ∈ cs, H p.2 = some (.tbl #[])) →
      ((∃ o, H a = some (.frz o (.lst (ns.map V.int)))) ∨ (∃ (o : Obj) (its : Array Value) (n : Nat), K.lookup a = some o ∧ o.cls = .type "list" ∧ o.dict = none ∧ o.data = .seq its n ∧ its.size ≤ sizeLine ∧ Vals (ns.map V.int) its.toList)) → sp [.ref a] H (fun v _ => v = .bl true) fun _ _ _ => False) ∧
    ∀ base : Heap, K.In base → base.Ns mainGlobals mg → (∀ p ∈ cs, LamX.TabB base mg p.1 p.2) → FnG l.prog w K mg base k fa fd [x] sp
theorem walk_sb {l : PySem.W.OpenLaw} {n k : Nat} {q : Program} {loose : List Str} {XP : (Str → Option Value) → Heap → Prop} {YP : World → Heap → Prop} {d : DefRec} {K : Params → PySem.W.Frag} {x : Str}
    (hn : l.most = some n) (hn2 : n ≤ sizeLine) (hdf : d.params.defaults = []) (hr : Room k callerA) (hY : ∀ (w : World) (h : Heap), YP w h → (K w.params).In h)
    (F : ∀ (w : World) (mg : Str → Option Value) (fa : Addr) (h : Heap), YP w h → (K w.params).In h → h.Ns mainGlobals mg → mg d.name = some (.ref fa) → LawAtG l w (K w.params) k n x mg fa h) :
    PySem.W.WalkO q loose XP YP l.row.toRowW d [] (fun f vs => PySem.call f vs) := by
  refine Att.attach_callB hn hdf fun w s₀ s₁ mg mb fa o pm cd doc a vs ns G Y ho hd hcd hmg hobj hints hlen hbits hg => ?_
  have inK := hY w _ Y
  obtain ⟨fd, cs, sp, c1, c2, c3, hb, hsp, hF⟩ := F w mg fa _ Y inK G.T.g hmg
  exact law_end inK G.T.g G.T.b G.T.builtins G.T.nolimit hg c1 c2 c3 G.T.bmain hobj hints (Nat.le_trans hlen hn2) hr hF hb fun H hH _ hS => hsp H a ns hlen hbits hH hS
end Sb

set_option Elab.async false
set_option linter.all false
set_option maxRecDepth 100000
/-! set(x): the new set, filled by whatever its update tells. -/
namespace Sb
open PySem PySem.Spec
open PyProof.Rows L2
abbrev set0 (w : World) : Obj :=
  { cls := .type "set", dict := none, data := .set #[] 0 (.fresh 0 0 (!w.params.followText "set-order")) }
section
variable {P : Program} {w : World} {A : Around}
variable {E : Value → Shared → Prop} {s : Shared}
set_option maxHeartbeats 3000000 in
theorem set_of_list {l : Addr} {items : Array Value} {M : Heap → Prop} {Q : Value → Shared → Prop} (src : s.heap.IsList l items)
    (run : ∀ R : Result → Shared → Prop, (∀ g tk, M g → (∀ b o, s.heap.get? b = some o → g.get? b = some o) → R (.ok (.ret .none)) { s with heap := g, toks := tk }) →
      codeAny (model P w) A.in1.in1 (.builtin "set.update.loop" ⟨[.ref s.heap.objs.size, .ref (s.heap.push (set0 w)).objs.size], []⟩) R { s with heap := (s.heap.push (set0 w)).push { cls := .type "list_iterator", data := .fields #[.ref l, .int 0 0] } })
    (k : ∀ (g : Heap) (tk : Nat), M g → (∀ b o, s.heap.get? b = some o → g.get? b = some o) → Q (.ref s.heap.objs.size) { s with heap := g, toks := tk }) :
    wpAny (model P w) A (call (.type "set") [.ref l]) Q E s :=
  by
  have ⟨_, _, m1⟩ := F.called_set.mro
  have m2 := F.called_set.made; have m3 := F.called_set.sub; have m4 := F.called_set.notType; have m5 := F.called_set.canCreate; have m6 := F.typeCall_set_1 (.ref l)
  refine wpAny_call (codeAny_of_tree (?_ : wpAny _ _ (callAny (.type "set") _) _ _ _))
  have quiet := Code.quiet_builtin (id := "type.__call__") ⟨.type "set" :: [.ref l], []⟩ (by decide +kernel)
  refine wpAny_pure ⟨quiet, codeAny_builtin F.entry_type_call ?_⟩
  rw [Around.under_plain (weight_type_call_type "set" [.ref l] []) (by rfl)]
  repeat any_goals first | assumption | wp_step
  have made := code_set_led1 (A := A.in1) (P := P) (w := w) (s := s) (E := E) (.ref l) (Q₁ := fun v t => v = .ref s.heap.objs.size ∧ t = { s with heap := s.heap.push (set0 w) }) ⟨rfl, rfl⟩
  refine codeAny_mono made ?_
  rintro (e | fl) t z
  · exact z
  cases fl with
  | next => exact z.elim
  | brk => exact z.elim
  | cont => exact z.elim
  | ret v =>
    obtain ⟨rfl, rfl⟩ := z
    have new : (s.heap.push (set0 w)).get? s.heap.objs.size = some (set0 w) := Heap.get?_push_size _ rfl
    have ty : Shared.TypeIs { s with heap := s.heap.push (set0 w) } (.ref s.heap.objs.size) "set" := ⟨_, new, rfl⟩
    have i1 := F.called_set.init.lookup; have i2 := F.called_set.init.bind (.ref s.heap.objs.size)
    repeat any_goals first | assumption | wp_step
    refine codeAny_mono (codeAny_call_builtin (R := wants (fun r t => r = .none ∧ ∃ g tk, t = { s with heap := g, toks := tk } ∧ M g ∧ (∀ b o, s.heap.get? b = some o → g.get? b = some o)) E)
      F.called_set.init.plain F.entry_set_init (check_set_init_1 ty ?fill)) ?after
    case fill =>
      obtain ⟨⟨oc, od, dt, sl⟩, at_, e1, nl, e2⟩ := src
      simp only at e1 e2
      subst e1 e2
      have at2 : (s.heap.push (set0 w)).get? l = some { cls := .type "list", dict := od, data := .seq items nl, slots := sl } := Heap.get?_push_of_some _ at_
      have s1 := F.sub_list_set; have s2 := F.sub_list_frozenset; have s3 : (Value.type "list" == Value.type "dict") = false := by decide
      have src2 : (s.heap.push (set0 w)).IsList l items := ⟨_, at2, rfl, nl, rfl⟩
      unfold Builtin.«set.__init__»
      unfold noKeywords Builtin.Frozenset.updateFrom
      generalize it : pyIter = nx
      wp_walk
      subst it
      refine wpAny_pyIter_list src2 (wpAny_bind (wpAny_runValue (run _ fun g tk hM old => ?_)))
      exact wpAny_pure (wpAny_pure ⟨rfl, g, tk, rfl, hM, old⟩)
    case after =>
      rintro (e | fl) t z
      · exact z
      cases fl with
      | next => exact z.elim
      | brk => exact z.elim
      | cont => exact z.elim
      | ret v =>
        obtain ⟨rfl, g, tk, rfl, hM, old⟩ := z
        repeat any_goals first | assumption | wp_step
        exact k _ _ hM old
set_option maxHeartbeats 3000000 in
theorem set_of_tuple {l : Addr} {items : Array Value} {M : Heap → Prop} {Q : Value → Shared → Prop} (src : s.heap.IsTuple l items)
    (run : ∀ R : Result → Shared → Prop, (∀ g tk, M g → (∀ b o, s.heap.get? b = some o → g.get? b = some o) → R (.ok (.ret .none)) { s with heap := g, toks := tk }) →
      codeAny (model P w) A.in1.in1 (.builtin "set.update.loop" ⟨[.ref s.heap.objs.size, .ref (s.heap.push (set0 w)).objs.size], []⟩) R { s with heap := (s.heap.push (set0 w)).push { cls := .type "tuple_iterator", data := .fields #[.ref l, .int 0 0] } })
    (k : ∀ (g : Heap) (tk : Nat), M g → (∀ b o, s.heap.get? b = some o → g.get? b = some o) → Q (.ref s.heap.objs.size) { s with heap := g, toks := tk }) :
    wpAny (model P w) A (call (.type "set") [.ref l]) Q E s :=
  by
  have ⟨_, _, m1⟩ := F.called_set.mro
  have m2 := F.called_set.made; have m3 := F.called_set.sub; have m4 := F.called_set.notType; have m5 := F.called_set.canCreate; have m6 := F.typeCall_set_1 (.ref l)
  refine wpAny_call (codeAny_of_tree (?_ : wpAny _ _ (callAny (.type "set") _) _ _ _))
  have quiet := Code.quiet_builtin (id := "type.__call__") ⟨.type "set" :: [.ref l], []⟩ (by decide +kernel)
  refine wpAny_pure ⟨quiet, codeAny_builtin F.entry_type_call ?_⟩
  rw [Around.under_plain (weight_type_call_type "set" [.ref l] []) (by rfl)]
  repeat any_goals first | assumption | wp_step
  have made := code_set_led1 (A := A.in1) (P := P) (w := w) (s := s) (E := E) (.ref l) (Q₁ := fun v t => v = .ref s.heap.objs.size ∧ t = { s with heap := s.heap.push (set0 w) }) ⟨rfl, rfl⟩
  refine codeAny_mono made ?_
  rintro (e | fl) t z
  · exact z
  cases fl with
  | next => exact z.elim
  | brk => exact z.elim
  | cont => exact z.elim
  | ret v =>
    obtain ⟨rfl, rfl⟩ := z
    have new : (s.heap.push (set0 w)).get? s.heap.objs.size = some (set0 w) := Heap.get?_push_size _ rfl
    have ty : Shared.TypeIs { s with heap := s.heap.push (set0 w) } (.ref s.heap.objs.size) "set" := ⟨_, new, rfl⟩
    have i1 := F.called_set.init.lookup; have i2 := F.called_set.init.bind (.ref s.heap.objs.size)
    repeat any_goals first | assumption | wp_step
    refine codeAny_mono (codeAny_call_builtin (R := wants (fun r t => r = .none ∧ ∃ g tk, t = { s with heap := g, toks := tk } ∧ M g ∧ (∀ b o, s.heap.get? b = some o → g.get? b = some o)) E)
      F.called_set.init.plain F.entry_set_init (check_set_init_1 ty ?fill)) ?after
    case fill =>
      obtain ⟨⟨oc, od, dt, sl⟩, at_, e1, nl, e2⟩ := src
      simp only at e1 e2
      subst e1 e2
      have at2 : (s.heap.push (set0 w)).get? l = some { cls := .type "tuple", dict := od, data := .seq items nl, slots := sl } := Heap.get?_push_of_some _ at_
      have s1 := F.sub_tuple_set; have s2 := F.sub_tuple_frozenset; have s3 : (Value.type "tuple" == Value.type "dict") = false := by decide
      have src2 : (s.heap.push (set0 w)).IsTuple l items := ⟨_, at2, rfl, nl, rfl⟩
      unfold Builtin.«set.__init__»
      unfold noKeywords Builtin.Frozenset.updateFrom
      generalize it : pyIter = nx
      wp_walk
      subst it
      refine wpAny_pyIter_tuple src2 (wpAny_bind (wpAny_runValue (run _ fun g tk hM old => ?_)))
      exact wpAny_pure (wpAny_pure ⟨rfl, g, tk, rfl, hM, old⟩)
    case after =>
      rintro (e | fl) t z
      · exact z
      cases fl with
      | next => exact z.elim
      | brk => exact z.elim
      | cont => exact z.elim
      | ret v =>
        obtain ⟨rfl, g, tk, rfl, hM, old⟩ := z
        repeat any_goals first | assumption | wp_step
        exact k _ _ hM old
end
end Sb

set_option Elab.async false
set_option linter.all false
set_option maxRecDepth 100000
/-! sorted(set(x)), the rules. -/
namespace Sb
open PySem PySem.Spec
open PyProof.Rows L2
section
variable {α : Type} [BEq α] [LawfulBEq α] {x : α}
theorem drop_twice {r d : List α} {y : α} (m : x ∈ d ↔ x ∈ r) : x ∈ (if r.contains y then d else y :: d) ↔ x ∈ y :: r := by
  split
  · rename_i h
    have := List.contains_iff_mem.mp h
    rw [m, List.mem_cons]
    constructor
    · exact .inr
    · rintro (rfl | z)
      · exact this
      · exact z
  · rw [List.mem_cons, List.mem_cons, m]
theorem drop_nd {r d : List α} {y : α} (m : y ∈ d → y ∈ r) (nd : d.Nodup) : (if r.contains y then d else y :: d).Nodup := by
  split
  · exact nd
  · rename_i h
    exact List.nodup_cons.mpr ⟨fun z => h (List.contains_iff_mem.mpr (m z)), nd⟩
end
theorem mem_dedupI {x : Int} : ∀ {l : List Int}, x ∈ dedupI l ↔ x ∈ l
  | [] => Iff.rfl
  | _ :: _ => drop_twice mem_dedupI
theorem nd_dedupI : ∀ {l : List Int}, (dedupI l).Nodup
  | [] => .nil
  | _ :: _ => drop_nd mem_dedupI.mp nd_dedupI
theorem mem_dedupP {x : Int × Int} : ∀ {l : List (Int × Int)}, x ∈ dedupP l ↔ x ∈ l
  | [] => Iff.rfl
  | _ :: _ => drop_twice mem_dedupP
theorem nd_dedupP : ∀ {l : List (Int × Int)}, (dedupP l).Nodup
  | [] => .nil
  | _ :: _ => drop_nd mem_dedupP.mp nd_dedupP
theorem setR_count {w : World} {h : Heap} {a : Addr} {ns : List Int} {c : Nat} (R : SetR w h a (fun j => decide (j ∈ ns)) c) : c = (dedupI ns).length := by
  have ⟨_, es, _, _, _, _, _, _, once, has, _, _, size, _⟩ := R
  have like : (es.toList.map L2.keyOf).Perm (dedupI ns) :=
    (List.perm_ext_iff_of_nodup once nd_dedupI).mpr fun j => by rw [← has j, mem_dedupI, decide_eq_true_iff]
  simpa [size] using like.length_eq
section
variable {P : Program} {w : World} {A : Around}
variable {s : Shared} {l : Addr} {items : Array Value}
/-- the set of pairs; the set of ints -/
def MP (P : Program) (w : World) (S : Addr) (ks : List (Addr × List Int)) (h : Heap) : Prop := ∃ L es ep t, SetTR P w h S L es ep t ∧ Got ks ks.length L
def MI (w : World) (S : Addr) (ns : List Int) (h : Heap) : Prop := ∃ c, SetR w h S (fun j => decide (j ∈ ns)) c
/-- the state behind the new set and the new iterator -/
abbrev begun (w : World) (s : Shared) (oI : Obj) : Shared := { s with heap := (s.heap.push (set0 w)).push oI }
theorem begun_old {oI : Obj} {b : Addr} {o : Obj} (e : s.heap.get? b = some o) : (begun w s oI).heap.get? b = some o := Heap.get?_push_of_some _ (Heap.get?_push_of_some _ e)
theorem begun_set {oI : Obj} : (begun w s oI).heap.get? s.heap.objs.size = some (set0 w) := Heap.get?_push_of_some _ (Heap.get?_push_size _ rfl)
theorem unborn {b : Addr} (big : s.heap.objs.size ≤ b) : s.heap.get? b = none := by
  rcases e : s.heap.get? b with _ | o
  · rfl
  · have := Heap.lt_size e
    exact absurd this (Nat.not_lt.mpr big)
theorem itSize : (s.heap.push (set0 w)).objs.size = s.heap.objs.size + 1 := Heap.size_push ..
theorem setFar (low : l < s.heap.objs.size) : s.heap.objs.size ∉ [(s.heap.push (set0 w)).objs.size, l] := by
  intro z
  rcases List.mem_cons.mp z with e | z
  · rw [itSize] at e
    exact absurd e.symm (Nat.succ_ne_self _)
  · exact absurd (List.mem_singleton.mp z) (Nat.ne_of_gt low)
theorem run_pairs {oI : Obj} {St : Nat → Heap → Prop} {ks : List (Addr × List Int)} {R : Result → Shared → Prop}
    (W : Walks P w A.in1 (s.heap.push (set0 w)).objs.size [(s.heap.push (set0 w)).objs.size, l] [(s.heap.push (set0 w)).objs.size] items.size (fun i v => items[i]? = some v) St) (st : St 0 (begun w s oI).heap)
    (low : l < s.heap.objs.size) (each : items.toList = ks.map fun p => Value.ref p.1) (tup : ∀ p ∈ ks, IsT P w s.heap p.2 p.1) (few : ks.length < 64) (un : A.in1.units < cLine)
    (k : ∀ g tk, MP P w s.heap.objs.size ks g → (∀ b o, s.heap.get? b = some o → g.get? b = some o) → R (.ok (.ret .none)) { s with heap := g, toks := tk }) :
    codeAny (model P w) A (.builtin "set.update.loop" ⟨[.ref s.heap.objs.size, .ref (s.heap.push (set0 w)).objs.size], []⟩) R (begun w s oI) := by
  have count : items.size = ks.length := by rw [← Array.length_toList, each, List.length_map]
  have it : ∀ (i : Nat) (v : Value), items[i]? = some v → ∃ p, ks[i]? = some p ∧ v = .ref p.1 := by
    intro i v e
    rw [← Array.getElem?_toList, each, List.getElem?_map] at e
    obtain ⟨p, e1, e2⟩ := Option.map_eq_some_iff.mp e
    exact ⟨p, e1, e2.symm⟩
  refine set_update_tups W.toS s.heap.objs.size (setFar low) ks count few it s.heap tup (unborn (Nat.le_refl _)) (fun b hb => ?_) un _ 0 _ rfl (Nat.zero_le _) st (fun _ _ e => begun_old e) ⟨[], #[], 0, _, setTR_fresh begun_set, Got.zero ks⟩ ?_
  · refine unborn ?_
    rw [List.mem_singleton.mp hb, itSize]
    omega
  · rintro ⟨g, gs, dr, tk, os⟩ L es ep t mv R1 got old
    cases (mv.gens : gs = _); cases (mv.drawn : dr = _); cases (mv.os : os = _)
    rw [count] at got
    exact k g tk ⟨L, es, ep, t, R1, got⟩ old
theorem run_ints {oI : Obj} {St : Nat → Heap → Prop} {ns : List Int} {R : Result → Shared → Prop}
    (W : Walks P w A.in1 (s.heap.push (set0 w)).objs.size [(s.heap.push (set0 w)).objs.size, l] [(s.heap.push (set0 w)).objs.size] items.size (fun i v => items[i]? = some v) St) (st : St 0 (begun w s oI).heap)
    (low : l < s.heap.objs.size) (each : IntsAre items.toList ns) (few : ns.length + 1 < scanBound)
    (k : ∀ g tk, MI w s.heap.objs.size ns g → (∀ b o, s.heap.get? b = some o → g.get? b = some o) → R (.ok (.ret .none)) { s with heap := g, toks := tk }) :
    codeAny (model P w) A (.builtin "set.update.loop" ⟨[.ref s.heap.objs.size, .ref (s.heap.push (set0 w)).objs.size], []⟩) R (begun w s oI) := by
  have count : items.size = ns.length := by rw [← Array.length_toList]; exact IntsAre.length each
  have it : ∀ (i : Nat) (v : Value), items[i]? = some v → ∃ j t, ns[i]? = some j ∧ v = .int j t := by
    intro i v e
    have lt : i < ns.length := count ▸ (Array.getElem?_eq_some_iff.mp e).1
    have ⟨t, ev⟩ := PyProof.Rows.IntsAre.int_at each i v (by rwa [Array.getElem?_toList])
    have at_ := List.getElem?_eq_getElem lt
    exact ⟨ns[i], t, at_, by rw [ev, List.getD_eq_getElem?_getD, at_]; rfl⟩
  refine set_update_ints W.toS s.heap.objs.size (setFar low) ns count few it _ 0 _ rfl (Nat.zero_le _) st ⟨0, Nat.le_refl 0, setR_new_at begun_set⟩ ?_
  rintro ⟨g, gs, dr, tk, os⟩ c mv _ R1
  cases (mv.gens : gs = _); cases (mv.drawn : dr = _); cases (mv.os : os = _)
  refine k g tk ⟨c, R1⟩ fun b o e => mv.heap b o (fun z => ?_) (begun_old e)
  have lt := Heap.lt_size e
  rcases List.mem_cons.mp z with rfl | z
  · exact Nat.lt_irrefl _ lt
  · rw [List.mem_singleton.mp z, itSize] at lt
    exact absurd lt (Nat.not_lt.mpr (Nat.le_succ _))
end
section
variable {X : Cx}
/-- set(x) -/
def rSetOf (K : PySem.W.Frag) (P : Program) (w : World) : List V → Hp → VK → Prop := fun xs H Q => ∃ l, xs = [V.ref l] ∧
  ((∃ ns : List Int, (SqL K H l (ns.map V.int) ∨ SqT K H l (ns.map V.int)) ∧ ns.length < 1000 ∧ ∀ a, H a = none → Q (.ref a) (upd H a (SetO w a (fun j => decide (j ∈ ns)) (dedupI ns).length))) ∨
   (∃ ks : List (Addr × List Int), (SqL K H l (ks.map fun p => V.ref p.1) ∨ SqT K H l (ks.map fun p => V.ref p.1)) ∧ (∀ p ∈ ks, SqT K H p.1 (p.2.map V.int)) ∧ ks.length < 64 ∧
     ∀ a L, H a = none → (∀ p ∈ L, p ∈ ks) → (∀ p ∈ ks, p.2 ∈ L.map (·.2)) → Q (.ref a) (upd H a (SetTO P w a L))))
theorem cr_setG (hc : X.calm = true) (hu : X.A.units + 64 < cLine) : CallR X (.type "set") (rSetOf X.K X.prog X.w) := by
  rintro pins s σ H xs us Q I rel ⟨l, rfl, ask⟩
  rw [Vals.ref1 rel]
  have free := I.hok.fresh (Nat.le_refl s.heap.objs.size)
  have calm : X.A.in1.in1.in1.handled = none := by simp [I.ok.hd hc]
  have un : X.A.in1.in1.in1.units < cLine := (by omega : X.A.units + 3 < cLine)
  have far : ∀ {b : Addr}, b < s.heap.objs.size → b ≠ (s.heap.push (set0 X.w)).objs.size := fun lt => by rw [itSize]; exact Nat.ne_of_lt (Nat.lt_succ_of_lt lt)
  rcases ask with ⟨ns, from_, small, q⟩ | ⟨ks, from_, tup, few, q⟩
  · have fin : ∀ (g : Heap) (tk : Nat), MI X.w s.heap.objs.size ns g → (∀ b o, s.heap.get? b = some o → g.get? b = some o) → EP X pins σ Q (.ref s.heap.objs.size) { s with heap := g, toks := tk } := by
      rintro g tk ⟨c, R⟩ old
      cases setR_count R
      exact ⟨.ref _, _, I.laid (t' := tk) old (Nat.le_refl _) (setO_new R), rfl, q _ free⟩
    have few : ns.length + 1 < scanBound := by unfold scanBound; omega
    rcases from_ with src | src
    · obtain ⟨its, rv, pl, _⟩ := I.list src
      refine set_of_list pl.isList (fun R k => run_ints (Walks.list calm _ l (far pl.lt) its.toArray) ?_ pl.lt (by simpa using Vals.ints rv) few k) fin
      exact ⟨⟨_, Heap.get?_push_size _ rfl, rfl, rfl⟩, (pl.isList.push _).push _⟩
    · obtain ⟨its, rv, ⟨o, at_, oc, n, od⟩, _⟩ := I.tuple src
      have tp : s.heap.IsTuple l its.toArray := ⟨o, at_, oc, n, od⟩
      refine set_of_tuple tp (fun R k => run_ints (Walks.tuple calm _ l (far (Heap.lt_size at_)) its.toArray) ?_ (Heap.lt_size at_) (by simpa using Vals.ints rv) few k) fin
      exact ⟨⟨_, Heap.get?_push_size _ rfl, rfl, rfl⟩, (tp.push _).push _⟩
  · have fin : ∀ (g : Heap) (tk : Nat), MP X.prog X.w s.heap.objs.size ks g → (∀ b o, s.heap.get? b = some o → g.get? b = some o) → EP X pins σ Q (.ref s.heap.objs.size) { s with heap := g, toks := tk } := by
      rintro g tk ⟨L, es, ep, t, R, got⟩ old
      refine ⟨.ref _, _, I.laid (t' := tk) old (Nat.le_refl _) (setTO_new R.t0), rfl, q _ L free (fun p m => List.mem_of_mem_take (got.sub p m)) fun p m => got.all p ?_⟩
      rwa [List.take_length]
    rcases from_ with src | src
    · obtain ⟨its, rv, pl, _⟩ := I.list src
      refine set_of_list pl.isList (fun R k => run_pairs (Walks.list calm _ l (far pl.lt) its.toArray) ?_ pl.lt (by simpa using refs_of_vals rv) (fun p m => I.isT (tup p m)) few un k) fin
      exact ⟨⟨_, Heap.get?_push_size _ rfl, rfl, rfl⟩, (pl.isList.push _).push _⟩
    · obtain ⟨its, rv, ⟨o, at_, oc, n, od⟩, _⟩ := I.tuple src
      have tp : s.heap.IsTuple l its.toArray := ⟨o, at_, oc, n, od⟩
      refine set_of_tuple tp (fun R k => run_pairs (Walks.tuple calm _ l (far (Heap.lt_size at_)) its.toArray) ?_ (Heap.lt_size at_) (by simpa using refs_of_vals rv) (fun p m => I.isT (tup p m)) few un k) fin
      exact ⟨⟨_, Heap.get?_push_size _ rfl, rfl, rfl⟩, (tp.push _).push _⟩
def rSrtSet (K : PySem.W.Frag) (P : Program) (w : World) : List V → Hp → VK → Prop := fun vs H Q => rSortedSet w vs H Q ∨ rSortedT K P w vs H Q
theorem cr_srtSet (hc : X.calm = true) : CallR X (.builtin "sorted") (rSrtSet X.K X.prog X.w) := CallR.or (cr_sortedSet hc) (cr_sortedT hc)
end
end Sb

set_option Elab.async false
set_option linter.all false
set_option maxRecDepth 100000
/-! sorted(set(x)), in the language. -/
namespace Sb
open PySem PySem.Spec PyProof.Rows L2
theorem post_pre {L : Lk} {B : AP} {H H1 H2 : Hp} {fr : Bool} {d : D} {v : V} (e : Ex H H1) (h : OpPost L B H1 fr d v H2) : OpPost L B H fr d v H2 := by
  obtain ⟨e2, h⟩ := h
  refine ⟨e.trans e2, ?_⟩
  cases fr with
  | false => exact h
  | true =>
    obtain ⟨p, ev, hp, q⟩ := h
    exact ⟨p, ev, e.free hp, q⟩
theorem pairs_ks {K : PySem.W.Frag} {H : Hp} : ∀ {ps : List (Int × Int)} {vs : List V}, Paired (IsPr K H) ps vs → ∃ ks : List (Addr × List Int), vs = ks.map (fun p => V.ref p.1) ∧ (∀ p ∈ ks, SqT K H p.1 (p.2.map V.int)) ∧ ks.map (·.2) = ps.map (fun p => [p.1, p.2])
  | _, _, .nil => ⟨[], rfl, fun _ h => (by cases h), rfl⟩
  | p :: ps, _, .cons ⟨t, ev, hs⟩ r => by
    obtain ⟨ks, e1, e2, e3⟩ := pairs_ks r
    refine ⟨(t, [p.1, p.2]) :: ks, by rw [ev, e1]; rfl, fun q hq => ?_, by rw [List.map_cons, List.map_cons, e3]⟩
    rcases List.mem_cons.mp hq with e | h
    · rw [e]; exact hs
    · exact e2 q h
def twoF : List Int → Int × Int
  | [x, y] => (x, y)
  | _ => (0, 0)
theorem leP_code {x y x' y' : Int} (h : TS.code 64 [x, y] ≤ TS.code 64 [x', y']) (b1 : 0 ≤ x ∧ x < 64) (b2 : 0 ≤ y ∧ y < 64) (b3 : 0 ≤ x' ∧ x' < 64) (b4 : 0 ≤ y' ∧ y' < 64) : LeP (x, y) (x', y') := by
  rw [code_pair, code_pair] at h
  rw [leP_iff]
  show x < x' ∨ (x = x' ∧ y ≤ y')
  omega
theorem nd_map {α β : Type} {f : α → β} : ∀ {l : List α}, l.Nodup → (∀ a ∈ l, ∀ b ∈ l, f a = f b → a = b) → (l.map f).Nodup
  | [], _, _ => List.nodup_nil
  | a :: l, h, k => by
    rw [List.map_cons, List.nodup_cons]
    have h := List.nodup_cons.mp h
    refine ⟨fun z => ?_, nd_map h.2 fun x hx y hy => k x (List.mem_cons_of_mem _ hx) y (List.mem_cons_of_mem _ hy)⟩
    obtain ⟨b, hb, e⟩ := List.mem_map.mp z
    have := k b (List.mem_cons_of_mem _ hb) a List.mem_cons_self e
    rw [this] at hb
    exact h.1 hb
section
variable {L : Lk} {P : Program} {w : World}
theorem c_sset : Call1S L (fun xs H Q => rSetOf L.K P w xs H fun y H2 => rSrtSet L.K P w [y] H2 Q) .sset := by
  intro B H x a z Q hx e k
  have src : ∃ p vs ds, x = .ref p ∧ (SqL L.K H p vs ∨ SqT L.K H p vs) ∧ Reps L B H ds vs ∧ itemsOf a = some ds := by
    cases a <;> simp only [op1D, itemsOf, reduceCtorEq] at e
    · obtain ⟨p, vs, ex, hp, r⟩ := root_tup hx
      exact ⟨p, vs, _, ex, .inr hp, r, rfl⟩
    · obtain ⟨p, vs, ex, hp, r⟩ := root_lst hx
      exact ⟨p, vs, _, ex, .inl (.of hp), r, rfl⟩
  obtain ⟨p, vs, ds, ex, hs, r, ei⟩ := src
  subst ex
  simp only [op1D, ei] at e
  cases q : intsOf ds with
  | some ns =>
    rw [q] at e
    simp only at e
    split at e
    case isFalse => cases e
    rename_i hc
    simp only [Bool.and_eq_true, decide_eq_true_eq] at hc
    cases e
    have ev := r.ints q
    subst ev
    refine ⟨p, rfl, .inl ⟨ns, hs, hc.1, fun a ha => .inl ⟨a, _, _, rfl, upd_same, hc.2, fun ns' t so mem hl ht => ?_⟩⟩⟩
    have nd : ns'.Nodup := so.imp fun h => by omega
    have pm : ns'.Perm (dedupI ns) := (List.perm_ext_iff_of_nodup nd nd_dedupI).mpr fun k => by rw [mem k, mem_dedupI]; simp
    have es : ns' = srtI (dedupI ns) := srtI_of pm (so.imp fun h => by omega)
    rw [← es] at k
    exact k _ _ (post_pre (Ex.new ha) (post_lst ht (reps_ints _)))
  | none =>
    rw [q] at e
    simp only at e
    cases q2 : pairsOf ds with
    | none => rw [q2] at e; cases e
    | some ps =>
      rw [q2] at e
      simp only at e
      split at e
      case isFalse => cases e
      rename_i hc
      simp only [Bool.and_eq_true, decide_eq_true_eq, List.all_eq_true] at hc
      cases e
      obtain ⟨ks, e1, e2, e3⟩ := pairs_ks (pairs_paired q2 r)
      have two : ∀ q ∈ ks, ∃ x y, q.2 = [x, y] ∧ (x, y) ∈ ps := fun q hq => by
        have : q.2 ∈ ks.map (·.2) := List.mem_map.mpr ⟨q, hq, rfl⟩
        rw [e3] at this
        obtain ⟨z, hz, ez⟩ := List.mem_map.mp this
        exact ⟨z.1, z.2, ez.symm, hz⟩
      have hlk : ks.length < 64 := by
        have := congrArg List.length e3
        rw [List.length_map, List.length_map] at this
        omega
      subst e1
      refine ⟨p, rfl, .inr ⟨ks, hs, e2, hlk, fun a M ha sub cov => .inr ⟨a, M, 2, 64, rfl, upd_same, fun q hq => (Ex.pr (O := fun _ => False) (Ex.new ha)).sqT (e2 q (sub q hq)), by decide, fun q hq => ?_, fun M' t pm nd few pw ht => ?_⟩⟩⟩
      · obtain ⟨x, y, e4, hm⟩ := two q (sub q hq)
        rw [e4]
        have b := hc.2 _ hm
        refine ⟨rfl, fun m hm => ?_⟩
        simp only [List.mem_cons, List.not_mem_nil, or_false] at hm
        rcases hm with e | e
        · rw [e]; exact ⟨b.1.1.1, b.1.1.2⟩
        · rw [e]; exact ⟨b.1.2, b.2⟩
      · have inK : ∀ q ∈ M', q ∈ ks := fun q hq => sub q (pm.mem_iff.mp hq)
        have qs : (M'.map fun q => twoF q.2) = srtP (dedupP ps) := by
          refine srtP_of ((List.perm_ext_iff_of_nodup ?_ nd_dedupP).mpr fun z => ?_) ?_
          · have n2 : (M'.map fun q => twoF q.2) = (M'.map (·.2)).map twoF := by rw [List.map_map]; rfl
            rw [n2]
            refine nd_map nd fun u hu v hv e => ?_
            obtain ⟨q1, h1, rfl⟩ := List.mem_map.mp hu
            obtain ⟨q2, h2, rfl⟩ := List.mem_map.mp hv
            obtain ⟨x, y, e4, _⟩ := two q1 (inK q1 h1)
            obtain ⟨x', y', e5, _⟩ := two q2 (inK q2 h2)
            rw [e4, e5] at e ⊢
            simp only [twoF, Prod.mk.injEq] at e
            rw [e.1, e.2]
          · rw [mem_dedupP]
            constructor
            · intro hz
              obtain ⟨q1, h1, rfl⟩ := List.mem_map.mp hz
              obtain ⟨x, y, e4, hm⟩ := two q1 (inK q1 h1)
              rw [e4]; exact hm
            · intro hz
              have : [z.1, z.2] ∈ ks.map (·.2) := by rw [e3]; exact List.mem_map.mpr ⟨z, hz, rfl⟩
              obtain ⟨q1, h1, e5⟩ := List.mem_map.mp this
              have h2 := cov q1 h1
              obtain ⟨q2, h3, e6⟩ := List.mem_map.mp h2
              refine List.mem_map.mpr ⟨q2, pm.mem_iff.mpr h3, ?_⟩
              have e7 : q2.2 = [z.1, z.2] := e6.trans e5
              rw [e7]; rfl
          · refine List.pairwise_map.mpr (pw.imp_of_mem fun {u v} hu hv h => ?_)
            obtain ⟨x, y, e4, m1⟩ := two u (inK u hu)
            obtain ⟨x', y', e5, m2⟩ := two v (inK v hv)
            rw [e4, e5] at h ⊢
            have b1 := hc.2 _ m1
            have b2 := hc.2 _ m2
            exact leP_code h ⟨b1.1.1.1, b1.1.1.2⟩ ⟨b1.1.2, b1.2⟩ ⟨b2.1.1.1, b2.1.1.2⟩ ⟨b2.1.2, b2.2⟩
        have pr : Paired (IsPr L.K (upd H a (SetTO P w a M))) (M'.map fun q => twoF q.2) (M'.map fun q => V.ref q.1) := by
          have gen : ∀ l : List (Addr × List Int), (∀ q ∈ l, q ∈ ks) → Paired (IsPr L.K (upd H a (SetTO P w a M))) (l.map fun q => twoF q.2) (l.map fun q => V.ref q.1) := by
            intro l
            induction l with
            | nil => intro _; exact .nil
            | cons q l ih =>
              intro h
              refine .cons ?_ (ih fun z hz => h z (List.mem_cons_of_mem _ hz))
              obtain ⟨x, y, e4, _⟩ := two q (h q List.mem_cons_self)
              have s := (Ex.pr (O := fun _ => False) (Ex.new (o := SetTO P w a M) ha)).sqT (e2 q (h q List.mem_cons_self))
              rw [e4] at s
              show IsPr L.K (upd H a (SetTO P w a M)) (twoF q.2) (V.ref q.1)
              rw [e4]
              exact ⟨q.1, rfl, s⟩
          exact gen M' inK
        rw [qs] at pr
        exact k _ _ (post_pre (Ex.new ha) (post_lst ht (paired_reps pr)))
end
section
variable {C : Cal} {sub : Nat → Nat → Bool} {L : Lk} {E : XK} {c : CI} {k : Nat} {X : Cx} {W : WX}
theorem x_sset (ok : CtxOk C L E c k X) {a : Expr} {ia : IE} {p p' q q' : Pos} (hl : Gl X "sorted") (hz : Gl X "set") (sa : notStar a = true) (ha : PE X a (TEv C sub L W ia)) :
    PE X (.Call (.Name "sorted" p) [.Call (.Name "set" p') [a] [] q] [] q') (TEv C sub L W (.op1 .sset ia)) := by
  have hK := ok.K
  have u := units65 ok
  have st1 : starEach [a] X.env = (false, eval a X.env) :: starEach [] X.env := star_cons sa
  have inner := pe_callTy (p := p') (pos := q) (cr_setG ok.calm (by omega)) hz (not_fn ok (by decide)) (by decide +kernel) (pa_cons ha pa_nil st1) (he := st1) (hpl := rfl)
  refine (pe_callB (cr_srtSet ok.calm) hl (not_fn ok (by decide)) (by decide +kernel) (pa_cons inner pa_nil rfl) (he := rfl) (hpl := rfl)).imp ?_
  rw [hK]
  intro σ H Q h
  exact t_call1 (c_sset (P := X.prog) (w := X.w)) σ H Q h
end
end Sb

set_option Elab.async false
set_option linter.all false
set_option maxRecDepth 100000
/-! A list filled from a zip of two lists. -/
namespace Sb
open PySem PySem.Spec
open PyProof.Rows L2
theorem zip_nolen : typeLookup (.type "zip") (Str.ofString "__len__") = pure none := by rw [typeLookup_type, builtinLookup_eq_fast] <;> kernel_rfl
theorem zip_nohint : typeLookup (.type "zip") (Str.ofString "__length_hint__") = pure none := by rw [typeLookup_type, builtinLookup_eq_fast] <;> kernel_rfl
/-- the zip's parts -/
structure Zp where
  z : Addr
  TI : Addr
  TO : Addr
  i1 : Addr
  i2 : Addr
  l1 : Addr
  l2 : Addr
def Zp.apart (Z : Zp) : Prop := ZipApart Z.z Z.TI Z.TO Z.i1 Z.i2 Z.l1 Z.l2
/-- all its parts lie below S -/
structure Zp.Below (Z : Zp) (S : Addr) : Prop where
  z : Z.z < S
  TI : Z.TI < S
  TO : Z.TO < S
  i1 : Z.i1 < S
  i2 : Z.i2 < S
  l1 : Z.l1 < S
  l2 : Z.l2 < S
/-- what a turn may write -/
def Zp.Keeps (Z : Zp) (g g' : Heap) : Prop := ∀ b o, b ≠ Z.z → b ≠ Z.TO → b ≠ Z.i1 → b ≠ Z.i2 → g.get? b = some o → g'.get? b = some o
/-- behind i turns -/
structure Zp.At (Z : Zp) (S : Addr) (xs ys : Array Value) (g : Heap) (i : Nat) : Prop where
  both : IsPair g Z.TI (.ref Z.i1) (.ref Z.i2)
  one : g.IsListIter Z.i1 Z.l1 i
  two : g.IsListIter Z.i2 Z.l2 i
  la : g.IsList Z.l1 xs
  lb : g.IsList Z.l2 ys
  own : (IsZip g Z.z Z.TI Z.TO .none ∧ ∃ a b, IsPair g Z.TO a b) ∨ ∃ T f o, IsZipHeld g Z.z Z.TI Z.TO T f ∧ g.get? T = some o ∧ T ≠ S ∧ T ≠ Z.z ∧ T ≠ Z.i1 ∧ T ≠ Z.i2
theorem Zp.At.but {Z : Zp} {S : Addr} {xs ys : Array Value} {g g' : Heap} {i : Nat} (x : Z.At S xs ys g i) (B : Z.Below S) (k : ∀ b o, b ≠ S → g.get? b = some o → g'.get? b = some o) : Z.At S xs ys g' i := by
  have lo : ∀ {b : Addr} {o : Obj}, b < S → g.get? b = some o → g'.get? b = some o := fun lt e => k _ _ (Nat.ne_of_lt lt) e
  refine ⟨lo B.TI x.both, x.one.at fun _ => lo B.i1, x.two.at fun _ => lo B.i2, x.la.at fun _ => lo B.l1, x.lb.at fun _ => lo B.l2, ?_⟩
  rcases x.own with ⟨h1, a, b, h2⟩ | ⟨T, f, o, h1, h2, h3, h4⟩
  · exact .inl ⟨lo B.z h1, a, b, lo B.TO h2⟩
  · exact .inr ⟨T, f, o, lo B.z h1, k _ _ h3 h2, h3, h4⟩
section
variable {prog : Program}
variable {w : World}
variable {A : Around} {E : Value → Shared → Prop} {s : Shared} {Z : Zp} {S : Addr} {xs ys : Array Value} {i : Nat}
theorem zip_turn {x y : Value} {Q : Option Value → Shared → Prop} (D : Z.apart) (B : Z.Below S) (st : Z.At S xs ys s.heap i) (big : S < s.heap.objs.size) (hx : xs[i]? = some x) (hy : ys[i]? = some y)
    (k : ∀ g, Z.At S xs ys g (i + 1) → IsPair g s.heap.objs.size x y → Z.Keeps s.heap g → Q (some (.ref s.heap.objs.size)) { s with heap := g }) : wpAny (model prog w) A (pyNext (.ref Z.z)) Q E s := by
  have hi : ∀ {b : Addr}, b < S → s.heap.objs.size ≠ b := fun lt => Nat.ne_of_gt (Nat.lt_trans lt big)
  have lists : ∀ g, Z.Keeps s.heap g → g.IsList Z.l1 xs ∧ g.IsList Z.l2 ys := fun g kp =>
    ⟨st.la.at fun o => kp _ o D.l1z D.l1TO D.l1i1 D.l1i2, st.lb.at fun o => kp _ o D.l2z D.l2TO D.l2i1 D.l2i2⟩
  rcases st.own with ⟨h1, a, b, h2⟩ | ⟨T, f, o, h1, h2, h3, h4, h5, h6⟩
  · refine wpAny_pyNext_zip_item D h1 st.both h2 st.one st.two st.la st.lb hx hy fun g a1 _ a3 a4 a5 _ kp => ?_
    exact k g ⟨kp _ _ D.TIz D.TITO D.TIi1 D.TIi2 st.both, a3, a4, (lists g kp).1, (lists g kp).2, .inr ⟨_, false, _, a1, a5, Nat.ne_of_gt big, hi B.z, hi B.i1, hi B.i2⟩⟩ a5 kp
  · refine wpAny_pyNext_zip_item_held D h1 h2 st.both st.one st.two st.la st.lb hx hy fun g a1 a3 a4 a5 _ kp => ?_
    have kp2 : Z.Keeps s.heap g := fun b o b1 _ b3 b4 => kp b o b1 b3 b4
    exact k g ⟨kp _ _ D.TIz D.TIi1 D.TIi2 st.both, a3, a4, (lists g kp2).1, (lists g kp2).2, .inr ⟨T, true, o, a1, kp _ _ h4 h5 h6 h2, h3, h4, h5, h6⟩⟩ a5 kp2
theorem zip_stop {Q : Option Value → Shared → Prop} (hh : A.handled = none) (D : Z.apart) (st : Z.At S xs ys s.heap i) (out : xs[i]? = none ∨ ys[i]? = none) (k : ∀ g, Z.Keeps s.heap g → Q none { s with heap := g }) : wpAny (model prog w) A (pyNext (.ref Z.z)) Q E s := by
  rcases st.own with ⟨h1, a, b, h2⟩ | ⟨T, f, o, h1, h2, _⟩
  · exact wpAny_pyNext_zip_end hh D h1 st.both h2 st.one st.two st.la st.lb out k
  · exact wpAny_pyNext_zip_end_held hh D h1 h2 st.both st.one st.two st.la st.lb out fun g kp => k g fun b o b1 _ b3 b4 => kp b o b1 b3 b4
/-- the list S and its pairs -/
structure Grown (xs ys : Array Value) (S : Addr) (g : Heap) (as : List Addr) (c : Nat) : Prop where
  list : g.get? S = some { cls := .type "list", dict := none, data := .seq (as.map Value.ref).toArray c, slots := #[] }
  rise : as.Pairwise (· < ·)
  over : ∀ a ∈ as, S < a
  each : ∀ (j : Nat) (a : Addr), as[j]? = some a → ∃ x y, xs[j]? = some x ∧ ys[j]? = some y ∧ IsPair g a x y
theorem Grown.keep {g g' : Heap} {as : List Addr} {c : Nat} (G : Grown xs ys S g as c) (B : Z.Below S) (kp : Z.Keeps g g') : Grown xs ys S g' as c := by
  refine ⟨kp _ _ (Nat.ne_of_gt B.z) (Nat.ne_of_gt B.TO) (Nat.ne_of_gt B.i1) (Nat.ne_of_gt B.i2) G.list, G.rise, G.over, fun j a e => ?_⟩
  obtain ⟨x, y, e1, e2, e3⟩ := G.each j a e
  have lt := G.over a (List.mem_of_getElem? e)
  have far : ∀ {b : Addr}, b < S → a ≠ b := fun q => Nat.ne_of_gt (Nat.lt_trans q lt)
  exact ⟨x, y, e1, e2, kp _ _ (far B.z) (far B.TO) (far B.i1) (far B.i2) e3⟩
/-- one pair more -/
theorem Grown.add {g : Heap} {as : List Addr} {c : Nat} {t : Addr} {x y : Value} (G : Grown xs ys S g as c) (above : ∀ a ∈ as, a < t) (St : S < t) (new : IsPair g t x y) (hx : xs[as.length]? = some x) (hy : ys[as.length]? = some y) :
    ∃ c', Grown xs ys S (g.update S (Obj.mapSeq (·.push (Value.ref t)))) (as ++ [t]) c' := by
  have off : ∀ {b : Addr} {o : Obj}, S < b → g.get? b = some o → (g.update S (Obj.mapSeq (·.push (Value.ref t)))).get? b = some o := fun lt e => (Heap.get?_update_other _ _ (Nat.ne_of_lt lt)).trans e
  have like : (as.map Value.ref).toArray.push (Value.ref t) = ((as ++ [t]).map Value.ref).toArray := by simp
  have self : (g.update S (Obj.mapSeq (·.push (Value.ref t)))).get? S = some { cls := .type "list", dict := none, data := .seq ((as.map Value.ref).toArray.push (Value.ref t)) _, slots := #[] } := Heap.get?_update_self _ G.list rfl
  rw [like] at self
  refine ⟨_, self, List.pairwise_append.mpr ⟨G.rise, List.pairwise_singleton _ _, fun a ha b hb => ?_⟩, fun a ha => ?_, fun j a e => ?_⟩
  · cases List.mem_singleton.mp hb
    exact above a ha
  · rcases List.mem_append.mp ha with q | q
    · exact G.over a q
    · cases List.mem_singleton.mp q
      exact St
  · by_cases lt : j < as.length
    · rw [List.getElem?_append_left lt] at e
      obtain ⟨x', y', e1, e2, e3⟩ := G.each j a e
      exact ⟨x', y', e1, e2, off (G.over a (List.mem_of_getElem? e)) e3⟩
    · rw [List.getElem?_append_right (Nat.le_of_not_lt lt)] at e
      have ej : j = as.length := by
        have := (List.getElem?_eq_some_iff.mp e).1
        rw [List.length_singleton] at this
        omega
      subst ej
      rw [Nat.sub_self] at e
      cases e
      exact ⟨x, y, hx, hy, off St new⟩
end
end Sb

set_option Elab.async false
set_option linter.all false
set_option maxRecDepth 100000
/-! list(zip(a, b)): the loop, the call. -/
namespace Sb
open PySem PySem.Spec
open PyProof.Rows L2
section
variable {prog : Program}
variable {w : World}
variable {A : Around} {s : Shared} {Z : Zp} {S : Addr} {xs ys : Array Value} {R : Result → Shared → Prop}
/-- the loop that fills S -/
theorem zip_fills (hh : A.handled = none) (D : Z.apart) (B : Z.Below S) (few : min xs.size ys.size ≤ sizeLine) (res : Value) {g0 : Heap}
    (k : ∀ g tk as c, (∀ b o, b ≠ S → g0.get? b = some o → b ≠ Z.z → b ≠ Z.TO → b ≠ Z.i1 → b ≠ Z.i2 → g.get? b = some o) → Grown xs ys S g as c → as.length = min xs.size ys.size → R (.ok (.ret res)) { s with heap := g, toks := tk }) :
    ∀ (m : Nat) (g : Heap) (tk c : Nat) (as : List Addr), as.length + m = min xs.size ys.size → Z.At S xs ys g as.length → Grown xs ys S g as c → (∀ b o, b ≠ S → g0.get? b = some o → b ≠ Z.z → b ≠ Z.TO → b ≠ Z.i1 → b ≠ Z.i2 → g.get? b = some o) →
      codeAny (model prog w) A (.builtin "list.extend.loop" ⟨[.ref S, .ref Z.z, res], []⟩) R { s with heap := g, toks := tk } := by
  intro m
  induction m with
  | zero =>
    intro g tk c as len st G old
    refine codeAny_builtin (prog := prog) F.entry_extend_loop ?_; rw [Around.under_plainId F.plain_extend_loop _]
    refine wpAny_bind (zip_stop (A := A.in1) (s := { s with heap := g, toks := tk }) hh D st ?_ fun g' kp => wpAny_pure (k g' tk as c (fun b o b1 e b2 b3 b4 b5 => kp b o b2 b3 b4 b5 (old b o b1 e b2 b3 b4 b5)) (G.keep B kp) (by omega)))
    simp only [Array.getElem?_eq_none_iff]
    omega
  | succ m ih =>
    intro g tk c as len st G old
    have lx : as.length < xs.size := by omega
    have ly : as.length < ys.size := by omega
    have big : S < g.objs.size := Heap.lt_size G.list
    have ex := Array.getElem?_eq_getElem lx
    have ey := Array.getElem?_eq_getElem ly
    refine codeAny_builtin (prog := prog) F.entry_extend_loop ?_; rw [Around.under_plainId F.plain_extend_loop _]
    refine wpAny_bind (zip_turn (A := A.in1) (s := { s with heap := g, toks := tk }) D B st big ex ey fun g' st' new kp => ?_)
    have G' := G.keep B kp
    have under : ∀ a ∈ as, a < g.objs.size := fun a ha => by
      obtain ⟨j, e⟩ := List.mem_iff_getElem?.mp ha
      obtain ⟨_, _, _, _, q⟩ := G.each j a e
      exact Heap.lt_size q
    obtain ⟨c', G2⟩ := G'.add under big new ex ey
    have beside : ∀ b o, b ≠ S → g'.get? b = some o → (g'.update S (Obj.mapSeq (·.push (Value.ref g.objs.size)))).get? b = some o := fun b o nb e => (Heap.get?_update_other _ _ (Ne.symm nb)).trans e
    have l1 : (as ++ [g.objs.size]).length = as.length + 1 := List.length_append
    have go := ih _ tk c' (as ++ [g.objs.size]) (by omega) (by rw [l1]; exact st'.but B beside) G2 fun b o b1 e b2 b3 b4 b5 => beside b o b1 (kp b o b2 b3 b4 b5 (old b o b1 e b2 b3 b4 b5))
    have z1 : ((as.map Value.ref).toArray).size = as.length := by simp
    refine wpAny_bind (wpAny_updateSeq G'.list rfl (wpAny_pure ⟨plainId_quiet F.plain_extend_loop _, go⟩) (by rw [z1]; omega) ?_)
    show ((as.map Value.ref).toArray.push _).size ≤ sizeLine + 1
    rw [Array.size_push, z1]
    omega
end
end Sb

set_option Elab.async false
set_option linter.all false
set_option maxRecDepth 100000
/-! list(zip(a, b)): the call. -/
namespace Sb
open PySem PySem.Spec
open PyProof.Rows L2
section
variable {prog : Program}
variable {w : World} {A : Around} {E : Value → Shared → Prop} {s : Shared} {Z : Zp} {xs ys : Array Value}
theorem zip_hint {z : Addr} {Q : Bool → Shared → Prop} (ty : s.TypeIs (.ref z) "zip") (k : Q true s) : wpAny (model prog w) A (Builtin.List.listLengthHint (.ref z)) Q E s := by
  unfold Builtin.List.listLengthHint; refine wpAny_bind (wpAny_specialOf ty zip_nolen ?_)
  show wpAny _ A (specialOf (Value.ref z) (Str.ofString "__length_hint__") >>= _) _ E s
  exact wpAny_bind (wpAny_specialOf ty zip_nohint (wpAny_pure k))
/-- a new empty list S takes a zip's pairs -/
theorem zip_taken {R : Result → Shared → Prop} {S : Addr} (hh : A.handled = none) (D : Z.apart) (B : Z.Below S) (few : min xs.size ys.size ≤ sizeLine) (res : Value) (st : Z.At S xs ys s.heap 0) (zip : ∃ f, IsZip s.heap Z.z Z.TI Z.TO f)
    (c₀ : Nat) (new : s.heap.get? S = some { cls := .type "list", data := .seq #[] c₀ })
    (k : ∀ g tk as c, (∀ b o, b ≠ S → s.heap.get? b = some o → b ≠ Z.z → b ≠ Z.TO → b ≠ Z.i1 → b ≠ Z.i2 → g.get? b = some o) → Grown xs ys S g as c → as.length = min xs.size ys.size → R (.ok (.ret res)) { s with heap := g, toks := tk }) :
    wpAny (model prog w) A.in1 (Builtin.List.listExtendWith (.ref S) (.ref Z.z) res)
      (fun f t => match f with | .done f => R (.ok f) t | .again c => c.quiet = true ∧ codeAny (model prog w) A c R t) (fun e t => R (.error e) t) s := by
  obtain ⟨f0, iz⟩ := zip
  have ty : s.TypeIs (.ref Z.z) "zip" := ⟨_, iz, rfl⟩
  have differs : Builtin.List.listSameRef (.ref S) (.ref Z.z) = false := by simp [Builtin.List.listSameRef, Nat.ne_of_gt B.z]
  have noL : (Value.type "zip" == Value.type "list") = false := by decide
  have noT : (Value.type "zip" == Value.type "tuple") = false := by decide
  have go : ∀ (g : Heap) (tk c : Nat), (∀ b o, b ≠ S → s.heap.get? b = some o → g.get? b = some o) → g.get? S = some { cls := .type "list", data := .seq #[] c } → codeAny (model prog w) A (.builtin "list.extend.loop" ⟨[.ref S, .ref Z.z, res], []⟩) R { s with heap := g, toks := tk } :=
    fun g tk c old at_ => zip_fills (s := s) (g0 := s.heap) hh D B few res k _ g tk c [] (Nat.zero_add _) (st.but B old) ⟨at_, .nil, by simp, by simp⟩ fun b o nb e _ _ _ _ => old b o nb e
  unfold Builtin.List.listExtendWith; refine wpAny_bind (wpAny_typeOf ty ?_)
  simp only [differs, noL, noT, Bool.or_false, Bool.false_eq_true, if_false]
  refine wpAny_bind (wpAny_pyIter_zip iz (wpAny_bind (wpAny_holding (zip_hint ty ?_))))
  refine wpAny_ite_split (fun _ => ?_) fun _ => wpAny_pure ⟨plainId_quiet F.plain_extend_loop _, go _ _ c₀ (fun _ _ _ e => e) new⟩
  refine wpAny_bind (wpAny_rule (wpAny_bind (?_ : wpAny _ _ (updateSeq S (·.push .none) >>= fun _ => updateSeq S (·.pop)) _ _ s)))
  have n1 := Heap.get?_update_self (Obj.mapSeq (·.push Value.none)) new rfl
  have n2 := Heap.get?_update_self (Obj.mapSeq (·.pop)) n1 rfl
  refine wpAny_bind (wpAny_updateSeq new rfl (wpAny_updateSeq (hz := by seq_fits) n1 rfl (wpAny_pure ⟨plainId_quiet F.plain_extend_loop _, go _ _ _ (fun b o nb e => ?_) n2⟩)))
  have side : ∀ {g : Heap} {f : Obj → Obj}, (g.update S f).get? b = g.get? b := Heap.get?_update_other _ _ (Ne.symm nb)
  rw [side, side, e]
end
end Sb

set_option Elab.async false
set_option linter.all false
set_option maxRecDepth 100000
/-! list(zip(a, b)): the call and what is tracked behind it. -/
namespace Sb
open PySem PySem.Spec
open PyProof.Rows L2
section
variable {prog : Program}
variable {w : World} {A : Around} {E : Value → Shared → Prop} {s : Shared} {Z : Zp} {xs ys : Array Value}
theorem zip_listed {Q : Value → Shared → Prop} (hh : A.handled = none) (D : Z.apart) (B : Z.Below s.heap.objs.size) (few : min xs.size ys.size ≤ sizeLine) (st : Z.At s.heap.objs.size xs ys s.heap 0) (zip : IsZip s.heap Z.z Z.TI Z.TO .none)
    (k : ∀ g tk as c, (∀ b o, s.heap.get? b = some o → b ≠ Z.z → b ≠ Z.TO → b ≠ Z.i1 → b ≠ Z.i2 → g.get? b = some o) → Grown xs ys s.heap.objs.size g as c → as.length = min xs.size ys.size → Q (.ref s.heap.objs.size) { s with heap := g, toks := tk }) :
    wpAny (model prog w) A (call (.type "list") [.ref Z.z]) Q E s := by
  let e0 : Obj := { cls := .type "list", data := .seq #[] }
  refine callType_codes (Q₁ := fun v t => v = .ref s.heap.objs.size ∧ t = { s with heap := s.heap.push e0 }) F.called_list (F.typeCall_list_1 _) F.entry_list_init (code_list_new _ ⟨rfl, rfl⟩) ?_
  rintro _ _ ⟨rfl, rfl⟩
  have n0 : (s.heap.push e0).get? s.heap.objs.size = some e0 := Heap.get?_push_size _ rfl
  have n1 := Heap.get?_update_self (Obj.mapSeq (fun _ => (#[] : Array Value))) n0 rfl
  have old : ∀ b o, s.heap.get? b = some o → ((s.heap.push e0).update s.heap.objs.size (Obj.mapSeq (fun _ => (#[] : Array Value)))).get? b = some o := fun b o e =>
    (Heap.get?_update_other _ _ (Nat.ne_of_gt (Heap.lt_size e))).trans (Heap.get?_push_of_some _ e)
  refine ⟨⟨_, n0, rfl⟩, F.args_list_init_2 _ _, ?_⟩
  show wpAny _ A.in1.in1 (Builtin.List.listItems (.ref s.heap.objs.size) >>= fun before => Builtin.List.listUpdate (.ref s.heap.objs.size) (fun _ => #[]) >>= fun _ => letGo before.toList.reverse >>= fun _ => Builtin.List.listExtendWith (.ref s.heap.objs.size) (.ref Z.z) .none) _ _ _
  unfold Builtin.List.listItems
  refine wpAny_bind (wpAny_bind (wpAny_seqItems n0 rfl (wpAny_pure (wpAny_bind (?_ : wpAny _ _ (updateSeq s.heap.objs.size (fun _ => #[])) _ _ _)))))
  refine wpAny_updateSeq n0 rfl (wpAny_bind (wpAny_letGo ?_))
  exact zip_taken (A := A.in1) (R := wants (fun r t => r = .none ∧ Q (.ref s.heap.objs.size) t) E) hh D B few .none (st.but B fun b o _ e => old b o e) ⟨_, old _ _ zip⟩ _ n1 fun g tk as c keep G len =>
    ⟨rfl, k g tk as c (fun b o e b2 b3 b4 b5 => keep b o (Nat.ne_of_lt (Heap.lt_size e)) (old b o e) b2 b3 b4 b5) G len⟩
end
end Sb

set_option Elab.async false
set_option linter.all false
set_option maxRecDepth 100000
/-! list(zip(a, b)): what is tracked behind it. -/
namespace Sb
open PySem PySem.Spec
open PyProof.Rows L2
theorem look_off {β : Type} {b : Addr} : ∀ {as : List Addr} {ps : List β}, b ∉ as → (as.zip ps).lookup b = none
  | [], _, _ => rfl
  | _ :: _, [], _ => rfl
  | a :: as, p :: ps, h => by
    have ne : (b == a) = false := by simpa using fun e : b = a => h (e ▸ List.mem_cons_self)
    rw [List.zip_cons_cons, List.lookup_cons, ne]
    exact look_off fun z => h (List.mem_cons_of_mem _ z)
theorem look_at {β : Type} : ∀ {as : List Addr} {ps : List β} {j : Nat} {b : Addr} {p : β}, as.Nodup → as[j]? = some b → ps[j]? = some p → (as.zip ps).lookup b = some p
  | [], _, _, _, _, _, no, _ => by simp at no
  | _ :: _, [], _, _, _, _, _, no => by simp at no
  | a :: as, q :: ps, 0, b, p, _, h1, h2 => by
    simp only [List.getElem?_cons_zero, Option.some.injEq] at h1 h2
    rw [List.zip_cons_cons, List.lookup_cons, h1, h2]
    simp
  | a :: as, q :: ps, j + 1, b, p, nd, h1, h2 => by
    have nd := List.nodup_cons.mp nd
    simp only [List.getElem?_cons_succ] at h1 h2
    have ne : (b == a) = false := by simpa using fun e : b = a => nd.1 (e ▸ List.mem_of_getElem? h1)
    rw [List.zip_cons_cons, List.lookup_cons, ne]
    exact look_at nd.2 h1 h2
/-- the heap with the list S of the pairs ps, which lie at as -/
def pairUp (H : Hp) (S : Addr) (as : List Addr) (ps : List (V × V)) : Hp := fun b => match (as.zip ps).lookup b with
  | some p => some (.tup [p.1, p.2])
  | none => if b = S then some (.lst (as.map V.ref)) else H b
section
variable {H : Hp} {S b : Addr} {as : List Addr} {ps : List (V × V)}
theorem pairUp_off (h1 : b ∉ as) (h2 : b ≠ S) : pairUp H S as ps b = H b := by unfold pairUp; rw [look_off h1]; exact if_neg h2
theorem pairUp_list (h : S ∉ as) : pairUp H S as ps S = some (.lst (as.map V.ref)) := by unfold pairUp; rw [look_off h]; exact if_pos rfl
theorem pairUp_pair {j : Nat} {p : V × V} (nd : as.Nodup) (h1 : as[j]? = some b) (h2 : ps[j]? = some p) : pairUp H S as ps b = some (.tup [p.1, p.2]) := by unfold pairUp; rw [look_at nd h1 h2]
end
end Sb

set_option Elab.async false
set_option linter.all false
set_option maxRecDepth 100000
/-! list(zip(a, b)): the state behind it. -/
namespace Sb
open PySem PySem.Spec
open PyProof.Rows L2
theorem rel_at : ∀ {vs : List V} {us : List Value} {j : Nat} {v : V} {u : Value}, Vals vs us → vs[j]? = some v → us[j]? = some u → RelV v u
  | _, _, 0, _, _, .cons r _, h1, h2 => by
    cases h1; cases h2; exact r
  | _, _, j + 1, _, _, .cons _ t, h1, h2 => rel_at (j := j) t h1 h2
section
variable {X : Cx} {pins : List (Addr × Obj)}
variable {σ : L2.St} {H : Hp} {s : Shared} {g : Heap} {S : Addr} {as : List Addr} {c tk : Nat}
theorem zip_track {xs ys : List V} {us ws : List Value} (I : Inv X pins σ H s) (few : (xs.zip ys).length ≤ sizeLine) (r1 : Vals xs us) (r2 : Vals ys ws) (old : ∀ b o, s.heap.get? b = some o → g.get? b = some o) (big : s.heap.objs.size ≤ S)
    (G : Grown us.toArray ws.toArray S g as c) (len : as.length = (xs.zip ys).length) :
    S ∉ as ∧ H S = none ∧ (∀ t ∈ as, H t = none) ∧ (∀ b o, H b = some o → pairUp H S as (xs.zip ys) b = some o) ∧ Inv X pins σ (pairUp H S as (xs.zip ys)) { s with heap := g, toks := tk } := by
  have apart : S ∉ as := fun z => Nat.lt_irrefl _ (G.over _ z)
  have nd : as.Nodup := G.rise.imp Nat.ne_of_lt
  have freeS := I.hok.fresh big
  have freeT : ∀ t ∈ as, H t = none := fun t ht => I.hok.fresh (Nat.le_trans big (Nat.le_of_lt (G.over t ht)))
  have up : ∀ b o, H b = some o → pairUp H S as (xs.zip ys) b = some o := by
    intro b o e
    rw [pairUp_off, e]
    · intro z; rw [freeT b z] at e; cases e
    · rintro rfl; rw [freeS] at e; cases e
  refine ⟨apart, freeS, freeT, up, ?_⟩
  have old2 : ∀ b o, s.heap.get? b = some o → b ∉ as ∧ b ≠ S := by
    intro b o e
    have lt := Heap.lt_size e
    refine ⟨fun m => ?_, fun z => ?_⟩
    · exact Nat.lt_irrefl _ (Nat.lt_of_lt_of_le lt (Nat.le_trans big (Nat.le_of_lt (G.over b m))))
    · exact Nat.lt_irrefl _ (Nat.lt_of_lt_of_le lt (z ▸ big))
  refine I.call' (ch := []) rfl ⟨fun b o q _ _ _ => old b o q, fun b o q _ _ _ => ⟨_, old b o q⟩, fun b o q no _ => ?_, fun b o q _ => ⟨o, old b o q⟩, fun b _ => up b _, fun b _ _ => up b _, fun b ps q => ⟨#[], by rw [up b _ q, Array.append_empty]⟩⟩ (fun b u q => ?_) I.bare fun b z => by cases z
  · rw [pairUp_off (old2 b o q).1 (old2 b o q).2]
    exact no
  · by_cases m : b ∈ as
    · obtain ⟨j, ej⟩ := List.mem_iff_getElem?.mp m
      have lt : j < (xs.zip ys).length := len ▸ (List.getElem?_eq_some_iff.mp ej).1
      have ep := List.getElem?_eq_getElem lt
      rw [pairUp_pair nd ej ep] at q
      obtain ⟨x, y, f1, f2, f3⟩ := G.each j b ej
      have ⟨g1, g2⟩ := List.getElem?_zip_eq_some.mp ep
      cases q
      exact ⟨by show 2 ≤ sizeLine; decide, [x, y], .cons (rel_at r1 g1 (by simpa using f1)) (.cons (rel_at r2 g2 (by simpa using f2)) .nil), ⟨_, f3, rfl, _, rfl⟩⟩
    · by_cases e : b = S
      · subst e
        rw [pairUp_list apart] at q
        cases q
        exact ⟨by rw [List.length_map, len]; exact few, as.map Value.ref, c, LiI.vals_refs as, G.list⟩
      · rw [pairUp_off m e] at q
        exact (I.hok b u q).stay (fun a v _ y => old a v y) (fun a y => up a _ y) fun a zs y => up a _ y
end
end Sb

set_option Elab.async false
set_option linter.all false
set_option maxRecDepth 100000
/-! list(zip(a, b)), in the language. -/
namespace Sb
open PySem PySem.Spec
open PyProof.Rows L2
section
variable {X : Cx}
def rZipL (K : PySem.W.Frag) : List V → Hp → VK → Prop := fun vs H Q => ∃ a b xs ys, vs = [.ref a, .ref b] ∧ SqL K H a xs ∧ SqL K H b ys ∧
  ∀ (H' : Hp) (p : Addr) (ts : List Addr), (∀ b o, H b = some o → H' b = some o) → H p = none → H' p = some (.lst (ts.map V.ref)) → ts.length = (xs.zip ys).length → (∀ (j : Nat) (t : Addr) (q : V × V), ts[j]? = some t → (xs.zip ys)[j]? = some q → H' t = some (.tup [q.1, q.2])) → Q (.ref p) H'
theorem pe_zipL {e e2 : Expr} {ta : TA} {p p' q q' : Pos} (hc : X.calm = true) (gl : Gl X "list") (ml : X.mg "list" = none) (gz : Gl X "zip") (mz : X.mg "zip" = none) (ha : PA X [e, e2] ta)
    (hs : starEach [e, e2] X.env = (false, eval e X.env) :: starEach [e2] X.env) (hpl : (backTo q (starEach [e2] X.env)).any (·.1) = false) :
    PE X (.Call (.Name "list" p) [.Call (.Name "zip" p') [e, e2] [] q] [] q') (tCB (rZipL X.K) ta) := by
  constructor
  intro pins s σ H Q I ask
  refine wpAny_Call_Name_kw (ld_blt I gl ml (show bootBuiltins "list" = some (.type "list") by decide +kernel) (PyProof.Rows.callWith_type1 ?_ rfl rfl))
  refine (Calls.spliced_cons ?_ : wpAny _ _ (spliced ((false, eval (.Call (.Name "zip" p') [e, e2] [] q) X.env) :: backTo q' (starEach [] X.env))) _ _ s)
  refine wpAny_Call_Name_kw (ld_blt I gz mz PyProof.Rows.boot_zip (PyProof.Rows.callWith_type1 (thn (ha.run q pins s σ H _ I ask) ?_) hs hpl))
  rintro us s1 ⟨_, H1, I1, rel, a, b, xs, ys, rfl, sa, sb, k⟩
  cases rel with
  | cons ra rest => cases rest with
    | cons rb rest =>
      cases rest; cases ra; cases rb
      obtain ⟨us, r1, la, z1⟩ := I1.list sa
      obtain ⟨ws, r2, lb, z2⟩ := I1.list sb
      have same : (xs.zip ys).length = min us.toArray.size ws.toArray.size := by rw [List.length_zip, r1.length, r2.length]; rfl
      have few : (xs.zip ys).length ≤ sizeLine := by rw [List.length_zip]; omega
      have lta := la.lt; have ltb := lb.lt
      refine call_zip_2 la.isList lb.isList fun g iz pr ow i1 i2 size old => Calls.spliced_nil ?_
      let Z : Zp := ⟨s1.heap.objs.size + 4, s1.heap.objs.size + 2, s1.heap.objs.size + 3, s1.heap.objs.size, s1.heap.objs.size + 1, a, b⟩
      have D : Z.apart := PySem.W.ktu_apart s1.heap.objs.size a b lta ltb
      have low : ∀ {n : Nat}, n < s1.heap.objs.size + 5 → n < g.objs.size := fun h => size ▸ h
      have B : Z.Below g.objs.size := ⟨low (Nat.add_lt_add_left (by decide) _), low (Nat.add_lt_add_left (by decide) _), low (Nat.add_lt_add_left (by decide) _), low (Nat.lt_add_of_pos_right (by decide)), low (Nat.add_lt_add_left (by decide) _), low (Nat.lt_add_right 5 lta), low (Nat.lt_add_right 5 ltb)⟩
      refine zip_listed (s := { s1 with heap := g }) (Z := Z) (I1.ok.hd hc) D B (same ▸ few) ⟨pr, i1, i2, la.isList.at fun _ => old _ _, lb.isList.at fun _ => old _ _, .inl ⟨iz, _, _, ow⟩⟩ iz fun g2 tk as c keep G len => ?_
      have old2 : ∀ b o, s1.heap.get? b = some o → g2.get? b = some o := fun b o e => by
        have lt := Heap.lt_size e
        have ne : ∀ n : Nat, b ≠ s1.heap.objs.size + n := fun n => Nat.ne_of_lt (Nat.lt_of_lt_of_le lt (Nat.le_add_right _ _))
        exact keep b o (old b o e) (ne 4) (ne 3) (ne 0) (ne 1)
      have big : s1.heap.objs.size ≤ g.objs.size := size ▸ Nat.le_add_right _ _
      obtain ⟨ap, f1, f2, up, J⟩ := zip_track (tk := tk) I1 few r1 r2 old2 big G (len.trans same.symm)
      exact ⟨.ref _, _, J, rfl, k _ _ as up f1 (pairUp_list ap) (len.trans same.symm) fun j t q h1 h2 => pairUp_pair (G.rise.imp Nat.ne_of_lt) h1 h2⟩
end
section
variable {C : Cal} {sub : Nat → Nat → Bool} {L : Lk} {E : XK} {c : CI} {k : Nat} {X : Cx} {W : WX}
theorem zip_reps {B : AP} {H : Hp} : ∀ {ds es : List D} {xs ys : List V} {ts : List Addr}, Reps L B H ds xs → Reps L B H es ys → ts.length = (xs.zip ys).length → (∀ (j : Nat) (t : Addr) (q : V × V), ts[j]? = some t → (xs.zip ys)[j]? = some q → H t = some (.tup [q.1, q.2])) →
    Reps L B H ((ds.zip es).map fun p => .tup [p.1, p.2]) (ts.map V.ref)
  | [], es, xs, ys, ts, h1, h2, len, _ => by
    have := h1.len
    cases xs with
    | cons _ _ => simp at this
    | nil => cases ts with
      | cons _ _ => simp at len
      | nil => simp only [List.zip_nil_left, List.map_nil, Reps]
  | d :: ds, [], xs, ys, ts, h1, h2, len, _ => by
    have := h2.len
    cases ys with
    | cons _ _ => simp at this
    | nil => cases ts with
      | cons _ _ => simp at len
      | nil => simp only [List.zip_nil_right, List.map_nil, Reps]
  | d :: ds, e :: es, [], _, _, h1, _, _, _ => by simp only [Reps] at h1
  | d :: ds, e :: es, _ :: _, [], _, _, h2, _, _ => by simp only [Reps] at h2
  | d :: ds, e :: es, x :: xs, y :: ys, [], _, _, len, _ => by simp at len
  | d :: ds, e :: es, x :: xs, y :: ys, t :: ts, h1, h2, len, at_ => by
    simp only [Reps] at h1 h2
    have t0 := at_ 0 t (x, y) rfl rfl
    simp only [List.zip_cons_cons, List.map_cons, Reps]
    refine ⟨?_, zip_reps h1.2 h2.2 (by simpa using len) fun j t q a b => at_ (j + 1) t q (by simpa using a) (by simpa using b)⟩
    simp only [Rep]
    exact ⟨_, _, rfl, .of t0, by simp only [Reps]; exact ⟨h1.1, h2.1, trivial⟩⟩
theorem c_zipl : Call2S L (rZipL L.K) .zipl := by
  intro B H x y a b z Q hx hy e k
  cases a <;> cases b <;> simp only [op2D, reduceCtorEq] at e
  cases e
  obtain ⟨p, vs, ex, hp, r⟩ := root_lst hx
  obtain ⟨p2, vs2, ex2, hp2, r2⟩ := root_lst hy
  refine ⟨p, p2, vs, vs2, by rw [ex, ex2], .of hp, .of hp2, fun H' q ts kp hq hl len pr => k _ _ ⟨kp, ?_⟩⟩
  rw [if_pos rfl]
  refine ⟨q, rfl, hq, ts.map V.ref, hl, ?_⟩
  have up : ∀ {ds : List D} {us : List V}, Reps L B H ds us → Reps L (fun a => a = q ∨ B a) H' ds us := fun h => Reps.keep (O := fun _ => False) (Ex.pr kp) (fun _ z => z.elim) (h.more fun a ha => by
    rcases ha with ha | ha
    · rw [ha]; exact .inr hq
    · exact .inl ha)
  exact zip_reps (up r) (up r2) len pr
theorem x_zipl (ok : CtxOk C L E c k X) {a b : Expr} {ia ib : IE} {p p' q q' : Pos} (hl : Gl X "list") (hz : Gl X "zip") (sa : notStar a = true) (sb : notStar b = true) (ha : PE X a (TEv C sub L W ia)) (hb : PE X b (TEv C sub L W ib)) :
    PE X (.Call (.Name "list" p) [.Call (.Name "zip" p') [a, b] [] q] [] q') (TEv C sub L W (.op2 .zipl ia ib)) := by
  have hK := ok.K
  have st2 : starEach [b] X.env = (false, eval b X.env) :: starEach [] X.env := star_cons sb
  have st1 : starEach [a, b] X.env = (false, eval a X.env) :: starEach [b] X.env := star_cons sa
  refine (pe_zipL ok.calm hl (not_fn ok (by decide)) hz (not_fn ok (by decide)) (pa_cons ha (pa_cons hb pa_nil st2) st1) st1 (by rw [st2]; rfl)).imp ?_
  rw [hK]; exact t_call2 c_zipl
end
end Sb

set_option Elab.async false
set_option linter.all false
set_option maxRecDepth 100000
/-! The single calls that SbU left open. -/
namespace Sb
open PySem PySem.Spec PyProof.Rows L2
theorem extra {C : Cal} {sub : Nat → Nat → Bool} {L : Lk} (exm : ∀ c h, sub c c = true → sub h h = true → PySem.W.exmOne L.K (.ref (L.ca c)) (.ref (L.ca h)) = some (sub c h)) : Extra C sub L where
  exm := exm
  rev := fun E c k X ok a ia j p1 p2 p3 pos ha => (pe_revG ha).imp (by rw [ok.K]; exact tUn_of u_rev)
  zipl := fun E c k X ok a b ia ib p p' q q' hl hz sa sb ha hb => x_zipl ok hl hz sa sb ha hb
  sset := fun E c k X ok a ia p p' q q' hl hz sa ha => x_sset ok hl hz sa ha
  repr := fun E c k X ok => ⟨_, call_reprG ok.K ok.gu (by have := units65 ok; omega), c_repr⟩
  isi := fun E c k X ok a b ia ts p q hg hs ha h => x_isi ok a b ia ts p q hg hs ha h
end Sb

set_option linter.all false
/-! The defs in the language. Written by gen.py. -/
namespace B
open Sb
/-- is_within(thing, least, most): 0 thing, 1 least, 2 most -/
def b0 : List IS := [.ret (.and2 (.op1 (.isi [.int]) (.pk 0)) (.and2 (.op1 .not_ (.op1 (.isi [.bool]) (.pk 0))) (.chain .le .le (.pk 1) (.pk 0) (.pk 2))))]
/-- is_tie(thing, n): 0 thing, 1 n -/
def b1 : List IS := [.ifs (.or_ (.not_ (.val (.op1 (.isi [.tuple]) (.pk 0)))) (.or_ (.val (.op2 .ne (.op1 .len (.pk 0)) (.cst (.int 2)))) (.not_ (.val (.call 0 [.e (.op2 .idx (.pk 0) (.cst (.int 0))), .e (.cst (.int 0)), .e (.op2 .sub (.pk 1) (.cst (.int 1)))]))))) [.ret (.cst (.bl false))] [],
  .ret (.call 0 [.e (.op2 .idx (.pk 0) (.cst (.int 1))), .e (.op2 .add (.op2 .idx (.pk 0) (.cst (.int 0))) (.cst (.int 1))), .e (.op2 .sub (.pk 1) (.cst (.int 1)))])]
/-- raw_neighbours(ties, bay): 0 ties, 1 bay, 2 .0, 3 a, 4 b -/
def b2 : List IS := [.ret (.op1 .sorted (.comp (.seq (.var 0)) (.nms [3, 4]) [2, 3, 4] [.val (.op2 .inn (.pk 1) (.tup [.var 3, .var 4]))] (.op2 .sub (.op2 .add (.pk 3) (.pk 4)) (.pk 1))))]
/-- reached(ties, bay, barred): 0 ties, 1 bay, 2 barred, 3 found, 4 waiting, 5 other -/
def b3 : List IS := [.par [3, 4] [.d1 (.var 1) (.cst (.bl true)), .lst [.var 1]],
  .whl (.val (.op2 .ne (.pk 4) (.lst []))) [.for_ (.seq (.call 2 [.e (.var 0), .e (.pop 4)])) (.nm 5) [.ifs (.and_ (.val (.op2 .nin (.pk 5) (.pk 3))) (.val (.op2 .ne (.pk 5) (.pk 2)))) [.seti 3 (.pk 5) (.cst (.bl true)),
  .app 4 (.var 5)] []]],
  .retV 3]
/-- is_web(thing): 0 thing, 1 .0, 2 tie -/
def b4 : List IS := [.ifs (.or_ (.not_ (.val (.op1 (.isi [.tuple]) (.pk 0)))) (.or_ (.val (.op2 .ne (.op1 .len (.pk 0)) (.cst (.int 2)))) (.not_ (.val (.call 0 [.e (.op2 .idx (.pk 0) (.cst (.int 0))), .e (.cst (.int 2)), .e (.cst (.int 40))]))))) [.ret (.cst (.bl false))] [],
  .ifs (.or_ (.not_ (.val (.op1 (.isi [.tuple]) (.op2 .idx (.pk 0) (.cst (.int 1)))))) (.not_ (.val (.op1 .all_ (.comp (.seq (.op2 .idx (.pk 0) (.cst (.int 1)))) (.nm 2) [1, 2] [] (.call 1 [.e (.var 2), .e (.op2 .idx (.pk 0) (.cst (.int 0)))])))))) [.ret (.cst (.bl false))] [],
  .ifs (.val (.op2 .ne (.op1 .list (.op2 .idx (.pk 0) (.cst (.int 1)))) (.op1 .sset (.op2 .idx (.pk 0) (.cst (.int 1)))))) [.ret (.cst (.bl false))] [],
  .ret (.op2 .eq (.op1 .len (.call 3 [.e (.op2 .idx (.pk 0) (.cst (.int 1))), .e (.cst (.int 0)), .e (.cst .non)])) (.op2 .idx (.pk 0) (.cst (.int 0))))]
/-- need_web(thing): 0 thing -/
def b5 : List IS := [.ifs (.not_ (.val (.call 4 [.e (.var 0)]))) [.rse 1] []]
/-- need_bay(web, thing): 0 web, 1 thing -/
def b6 : List IS := [.ifs (.not_ (.val (.call 0 [.e (.var 1), .e (.cst (.int 0)), .e (.op2 .sub (.op2 .idx (.pk 0) (.cst (.int 0))) (.cst (.int 1)))]))) [.rse 2] []]
/-- neighbours(web, bay): 0 web, 1 bay -/
def b7 : List IS := [.exp (.call 5 [.e (.var 0)]),
  .exp (.call 6 [.e (.var 0), .e (.var 1)]),
  .ret (.call 2 [.e (.op2 .idx (.pk 0) (.cst (.int 1))), .e (.var 1)])]
/-- distances(ties, bay): 0 ties, 1 bay, 2 found, 3 order, 4 done, 5 other -/
def b8 : List IS := [.par [2, 3, 4] [.d1 (.var 1) (.cst (.int 0)), .lst [.var 1], .cst (.int 0)],
  .whl (.val (.op2 .lt (.pk 4) (.op1 .len (.pk 3)))) [.for_ (.seq (.call 2 [.e (.var 0), .e (.op2 .idx (.pk 3) (.pk 4))])) (.nm 5) [.ifs (.val (.op2 .nin (.pk 5) (.pk 2))) [.seti 2 (.pk 5) (.op2 .add (.op2 .idx (.pk 2) (.op2 .idx (.pk 3) (.pk 4))) (.cst (.int 1))),
  .app 3 (.var 5)] []],
  .aug 4 (.cst (.int 1))],
  .retV 2]
/-- raw_path(web, a, b): 0 web, 1 a, 2 b, 3 far, 4 found, 5 .0, 6 other -/
def b9 : List IS := [.par [3, 4] [.call 8 [.e (.op2 .idx (.pk 0) (.cst (.int 1))), .e (.var 2)], .lst []],
  .whl (.val (.op2 .ne (.pk 1) (.pk 2))) [.asg 1 (.op2 .idx (.comp (.seq (.call 2 [.e (.op2 .idx (.pk 0) (.cst (.int 1))), .e (.var 1)])) (.nm 6) [5, 6] [.val (.op2 .eq (.op2 .idx (.pk 3) (.pk 6)) (.op2 .sub (.op2 .idx (.pk 3) (.pk 1)) (.cst (.int 1))))] (.var 6)) (.cst (.int 0))),
  .app 4 (.var 1)],
  .retV 4]
/-- first_path(web, a, b): 0 web, 1 a, 2 b -/
def b10 : List IS := [.exp (.call 5 [.e (.var 0)]),
  .exp (.call 6 [.e (.var 0), .e (.var 1)]),
  .exp (.call 6 [.e (.var 0), .e (.var 2)]),
  .ret (.call 9 [.e (.var 0), .e (.var 1), .e (.var 2)])]
/-- sides_of(ties, bay): 0 ties, 1 bay, 2 found, 3 .0, 4 one, 5 far, 6 a, 7 b -/
def b11 : List IS := [.asg 2 (.dcomp (.items (.call 8 [.e (.var 0), .e (.var 1)])) (.nms [4, 5]) [3, 4, 5] (.var 4) (.op2 .mod (.pk 5) (.cst (.int 2)))),
  .ret (.ite (.val (.op1 .any_ (.comp (.seq (.var 0)) (.nms [6, 7]) [3, 6, 7] [.val (.op2 .inn (.pk 6) (.pk 2))] (.op2 .eq (.op2 .idx (.pk 2) (.pk 6)) (.op2 .idx (.pk 2) (.pk 7)))))) (.cst .non) (.var 2))]
/-- sides(web): 0 web, 1 found, 2 .0, 3 bay -/
def b12 : List IS := [.exp (.call 5 [.e (.var 0)]),
  .asg 1 (.call 11 [.e (.op2 .idx (.pk 0) (.cst (.int 1))), .e (.cst (.int 0))]),
  .ret (.ite (.val (.op2 .is_ (.pk 1) (.cst .non))) (.cst .non) (.op1 .tuple (.comp (.rng1 (.op2 .idx (.pk 0) (.cst (.int 0)))) (.nm 3) [2, 3] [] (.op2 .idx (.pk 1) (.pk 3)))))]
/-- _law_open(script): 0 script, 1 cells, 2 k, 3 cell -/
def b13 : List IS := [.asg 1 (.op1 .list (.sl (.pk 0) (.no) (.e (.cst (.int 12))))),
  .for_ (.enum (.sl (.pk 0) (.e (.cst (.int 12))) (.e (.cst (.int 63))))) (.nms [2, 3]) [.seti 1 (.op2 .mod (.op1 .int_ (.pk 2)) (.cst (.int 12))) (.op2 .add (.op2 .idx (.pk 1) (.op2 .mod (.op1 .int_ (.pk 2)) (.cst (.int 12)))) (.pk 3))],
  .ret (.lst [.var 1, .cst (.int 0), .cst (.int 0)])]
/-- _law_spread(cell, k): 0 cell, 1 k, 2 primes, 3 one, 4 two, 5 three -/
def b14 : List IS := [.ifs (.val (.op2 .ge (.pk 0) (.op2 .pow (.cst (.int 10)) (.cst (.int 18))))) [.retV 0] [],
  .asg 2 (.lst [.cst (.int 2147483629), .cst (.int 2147483587), .cst (.int 2147483579), .cst (.int 2147483563), .cst (.int 2147483549), .cst (.int 2147483543), .cst (.int 2147483497), .cst (.int 2147483489)]),
  .asg 2 (.op2 .add (.pk 2) (.lst [.cst (.int 2147483477), .cst (.int 2147483423), .cst (.int 2147483399), .cst (.int 2147483353), .cst (.int 2147483323)])),
  .asg 3 (.op2 .mul (.op2 .mod (.op1 .int_ (.pk 0)) (.cst (.int 1000000007))) (.op2 .add (.op2 .mul (.cst (.int 2)) (.pk 1)) (.cst (.int 69069)))),
  .asg 3 (.op2 .mod (.op1 .int_ (.op2 .pow (.op2 .add (.op2 .add (.pk 3) (.op2 .mul (.pk 1) (.cst (.int 40503)))) (.cst (.int 977))) (.cst (.int 3)))) (.op2 .idx (.pk 2) (.op2 .mod (.op1 .int_ (.pk 1)) (.cst (.int 13))))),
  .asg 4 (.op2 .mod (.op1 .int_ (.op2 .pow (.op2 .add (.op2 .add (.op2 .mul (.pk 3) (.op2 .add (.pk 1) (.cst (.int 3)))) (.op2 .mod (.op1 .int_ (.pk 0)) (.cst (.int 65537)))) (.cst (.int 5))) (.cst (.int 5)))) (.op2 .idx (.pk 2) (.op2 .mod (.op1 .int_ (.op2 .add (.pk 1) (.cst (.int 5)))) (.cst (.int 13))))),
  .asg 5 (.op2 .mod (.op1 .int_ (.op2 .pow (.op2 .add (.op2 .add (.pk 4) (.op2 .mod (.op1 .int_ (.pk 3)) (.cst (.int 1009)))) (.pk 1)) (.cst (.int 3)))) (.op2 .idx (.pk 2) (.op2 .mod (.op1 .int_ (.op2 .add (.pk 1) (.cst (.int 7)))) (.cst (.int 13))))),
  .ret (.op2 .add (.op2 .mul (.op2 .add (.op2 .mul (.pk 3) (.cst (.int 2147483647))) (.pk 4)) (.cst (.int 2147483647))) (.pk 5))]
/-- _law_take(pen, many): 0 pen, 1 many, 2 k, 3 cell, 4 found -/
def b15 : List IS := [.ifs (.val (.op2 .lt (.op2 .idx (.pk 0) (.cst (.int 2))) (.pk 1))) [.asg 2 (.op2 .idx (.pk 0) (.cst (.int 1))),
  .asg 3 (.cst (.int 0)),
  .ifs (.val (.op2 .lt (.pk 2) (.op1 .len (.op2 .idx (.pk 0) (.cst (.int 0)))))) [.asg 3 (.op2 .idx (.op2 .idx (.pk 0) (.cst (.int 0))) (.pk 2))] [.ifs (.val (.op2 .gt (.op1 .len (.op2 .idx (.pk 0) (.cst (.int 0)))) (.cst (.int 0)))) [.asg 3 (.op2 .mod (.op1 .int_ (.op2 .idx (.op2 .idx (.pk 0) (.cst (.int 0))) (.op2 .mod (.op1 .int_ (.op2 .add (.op2 .mul (.pk 2) (.cst (.int 5))) (.cst (.int 3)))) (.op1 .len (.op2 .idx (.pk 0) (.cst (.int 0))))))) (.op2 .add (.op2 .pow (.cst (.int 10)) (.cst (.int 17))) (.pk 2)))] []],
  .seti 0 (.cst (.int 1)) (.op2 .add (.pk 2) (.cst (.int 1))),
  .seti 0 (.cst (.int 2)) (.call 14 [.e (.var 3), .e (.var 2)])] [],
  .asg 4 (.op2 .mod (.op1 .int_ (.op2 .idx (.pk 0) (.cst (.int 2)))) (.pk 1)),
  .seti 0 (.cst (.int 2)) (.op2 .fdiv (.op2 .idx (.pk 0) (.cst (.int 2))) (.pk 1)),
  .retV 4]
/-- _law_one_of(pen, some): 0 pen, 1 some -/
def b16 : List IS := [.ret (.op2 .idx (.pk 1) (.call 15 [.io 0, .e (.op1 .len (.pk 1))]))]
/-- _law_near(ties, bay): 0 ties, 1 bay, 2 .0, 3 a, 4 b -/
def b17 : List IS := [.ret (.op1 .sorted (.op2 .add (.comp (.seq (.var 0)) (.nms [3, 4]) [2, 3, 4] [.val (.op2 .eq (.pk 4) (.pk 1))] (.var 3)) (.comp (.seq (.var 0)) (.nms [3, 4]) [2, 3, 4] [.val (.op2 .eq (.pk 3) (.pk 1))] (.var 4))))]
/-- _law_reached(ties, bay, barred): 0 ties, 1 bay, 2 barred, 3 found, 4 waiting, 5 other -/
def b18 : List IS := [.par [3, 4] [.d1 (.var 1) (.cst (.bl true)), .lst [.var 1]],
  .whl (.val (.op2 .ne (.pk 4) (.lst []))) [.for_ (.seq (.call 17 [.e (.var 0), .e (.pop 4)])) (.nm 5) [.ifs (.and_ (.val (.op2 .ne (.pk 5) (.pk 2))) (.val (.op2 .nin (.pk 5) (.pk 3)))) [.seti 3 (.pk 5) (.cst (.bl true)),
  .app 4 (.var 5)] []]],
  .retV 3]
/-- _law_any_names(pen, n): 0 pen, 1 n, 2 left, 3 found, 4 turn -/
def b19 : List IS := [.par [2, 3] [.op1 .rng1 (.pk 1), .lst []],
  .for_ (.rng1 (.pk 1)) (.nm 4) [.app 3 (.popAt 2 (.call 15 [.io 0, .e (.op1 .len (.pk 2))]))],
  .retV 3]
/-- _law_renamed(ties, names): 0 ties, 1 names, 2 .0, 3 a, 4 b -/
def b20 : List IS := [.ret (.op1 .tuple (.op1 .sorted (.comp (.seq (.var 0)) (.nms [3, 4]) [2, 3, 4] [] (.tup [.op2 .min2 (.op2 .idx (.pk 1) (.pk 3)) (.op2 .idx (.pk 1) (.pk 4)), .op2 .max2 (.op2 .idx (.pk 1) (.pk 3)) (.op2 .idx (.pk 1) (.pk 4))]))))]
/-- _law_ways(ends, lengths, first): 0 ends, 1 lengths, 2 first, 3 found, 4 many, 5 row -/
def b21 : List IS := [.asg 3 (.lst []),
  .for_ (.seq (.var 1)) (.nm 4) [.asg 5 (.op2 .add (.op2 .add (.lst [.op2 .idx (.pk 0) (.cst (.int 0))]) (.op2 .rng2 (.pk 2) (.op2 .add (.pk 2) (.pk 4)))) (.lst [.op2 .idx (.pk 0) (.cst (.int 1))])),
  .par [3, 2] [.op2 .add (.pk 3) (.op2 .zipl (.pk 5) (.sl (.pk 5) (.e (.cst (.int 1))) (.no))), .op2 .add (.pk 2) (.pk 4)]],
  .retV 3]
/-- _law_piece(pen, size): 0 pen, 1 size, 2 form, 3 n, 4 some, 5 lengths, 6 ties, 7 a, 8 .0, 9 row, 10 b -/
def b22 : List IS := [.asg 2 (.call 15 [.io 0, .e (.cst (.int 6))]),
  .ifs (.or_ (.val (.op2 .eq (.pk 2) (.cst (.int 0)))) (.val (.op2 .lt (.pk 1) (.cst (.int 3))))) [.ret (.tup [.lst [.tup [.cst (.int 0), .cst (.int 1)]], .cst (.int 2)])] [],
  .ifs (.val (.op2 .eq (.pk 2) (.cst (.int 1)))) [.asg 3 (.op2 .add (.cst (.int 3)) (.call 15 [.io 0, .e (.op2 .sub (.pk 1) (.cst (.int 2)))])),
  .ret (.tup [.call 21 [.e (.tup [.cst (.int 0), .cst (.int 0)]), .e (.lst [.op2 .sub (.pk 3) (.cst (.int 1))]), .e (.cst (.int 1))], .var 3])] [],
  .asg 3 (.op2 .add (.cst (.int 3)) (.call 15 [.io 0, .e (.op2 .sub (.pk 1) (.cst (.int 2)))])),
  .ifs (.and_ (.val (.op2 .eq (.pk 2) (.cst (.int 2)))) (.val (.op2 .gt (.pk 3) (.cst (.int 3))))) [.asg 4 (.lst [.lst [.cst (.int 1), .cst (.int 1)], .lst [.cst (.int 1), .cst (.int 1), .cst (.int 1)], .lst [.cst (.int 0), .cst (.int 1), .cst (.int 1)], .lst [.cst (.int 0), .cst (.int 2), .cst (.int 2)], .lst [.cst (.int 1), .cst (.int 1), .cst (.int 2)], .lst [.cst (.int 1), .cst (.int 1), .cst (.int 1), .cst (.int 1)], .lst [.cst (.int 0), .cst (.int 2), .cst (.int 1)], .lst [.cst (.int 0), .cst (.int 3), .cst (.int 1)]]),
  .asg 4 (.op2 .add (.pk 4) (.lst [.lst [.cst (.int 1), .cst (.int 2), .cst (.int 1)], .lst [.cst (.int 0), .cst (.int 1), .cst (.int 1), .cst (.int 1)], .lst [.cst (.int 1), .cst (.int 2), .cst (.int 2)], .lst [.cst (.int 1), .cst (.int 2), .cst (.int 2)]])),
  .asg 5 (.call 16 [.io 0, .e (.comp (.seq (.var 4)) (.nm 9) [8, 9] [.val (.op2 .le (.op2 .add (.op1 .sum_ (.pk 9)) (.cst (.int 2))) (.pk 3))] (.var 9))]),
  .ret (.tup [.call 21 [.e (.tup [.cst (.int 0), .cst (.int 1)]), .e (.var 5), .e (.cst (.int 2))], .op2 .add (.op1 .sum_ (.pk 5)) (.cst (.int 2))])] [],
  .asg 3 (.op1 .min_ (.lst [.var 3, .cst (.int 5)])),
  .asg 6 (.call 21 [.e (.tup [.cst (.int 0), .cst (.int 0)]), .e (.lst [.op2 .sub (.pk 3) (.cst (.int 1))]), .e (.cst (.int 1))]),
  .for_ (.rng1 (.pk 3)) (.nm 7) [.asg 6 (.op2 .add (.pk 6) (.comp (.rng2 (.op2 .add (.pk 7) (.cst (.int 2))) (.pk 3)) (.nm 10) [8, 10] [.and_ (.val (.op2 .ne (.tup [.var 7, .var 10]) (.tup [.cst (.int 0), .op2 .sub (.pk 3) (.cst (.int 1))]))) (.val (.op2 .eq (.call 15 [.io 0, .e (.cst (.int 3))]) (.cst (.int 0))))] (.tup [.var 7, .var 10])))],
  .ret (.tup [.var 6, .var 3])]
/-- _law_any_web(pen, most, size): 0 pen, 1 most, 2 size, 3 ties, 4 n, 5 turn, 6 more, 7 many, 8 at, 9 names, 10 .0, 11 a, 12 b -/
def b23 : List IS := [.asgN [3, 4] (.call 22 [.io 0, .e (.op1 .min_ (.lst [.var 2, .var 1]))]),
  .for_ (.rng1 (.call 15 [.io 0, .e (.cst (.int 4))])) (.nm 5) [.ifs (.val (.op2 .lt (.pk 4) (.pk 1))) [.asgN [6, 7] (.call 22 [.io 0, .e (.op1 .min_ (.lst [.var 2, .op2 .add (.op2 .sub (.pk 1) (.pk 4)) (.cst (.int 1))]))]),
  .asg 8 (.call 15 [.io 0, .e (.var 4)]),
  .asg 9 (.op2 .add (.lst [.var 8]) (.op2 .rng2 (.pk 4) (.op2 .sub (.op2 .add (.pk 4) (.pk 7)) (.cst (.int 1))))),
  .par [3, 4] [.op2 .add (.pk 3) (.comp (.seq (.var 6)) (.nms [11, 12]) [10, 11, 12] [] (.tup [.op2 .idx (.pk 9) (.pk 11), .op2 .idx (.pk 9) (.pk 12)])), .op2 .sub (.op2 .add (.pk 4) (.pk 7)) (.cst (.int 1))]] []],
  .ret (.tup [.var 4, .call 20 [.e (.var 3), .e (.call 19 [.io 0, .e (.var 4)])]])]
/-- _law_bent(pen, value): 0 pen, 1 value, 2 some, 3 k, 4 way; BAD: method upper -/
def b24 : List IS := [.asg 2 (.lst [.cst .non, .cst (.bl true), .cst (.bl false), .cst (.int 0), .cst (.int 1), .op1 .neg (.cst (.int 1)), .cst (.int 2), .cst (.int 7), .cst (.str "a"), .cst (.str ""), .cst (.str "x"), .cst (.int 40), .tup [], .lst [], .dnil, .tup [.cst (.int 0)], .tup [.cst (.str "0")], .tup [.cst .non], .lst [.cst (.int 0)], .cst (.str "and")]),
  .ifs (.or_ (.val (.op1 (.isi [.bool]) (.pk 1))) (.or_ (.not_ (.val (.op1 (.isi [.int, .tuple, .str]) (.pk 1)))) (.val (.op2 .eq (.call 15 [.io 0, .e (.cst (.int 9))]) (.cst (.int 0)))))) [.ret (.call 16 [.io 0, .e (.var 2)])] [],
  .ifs (.val (.op1 (.isi [.int]) (.pk 1))) [.ret (.call 16 [.io 0, .e (.lst [.op2 .add (.pk 1) (.cst (.int 1)), .op1 .neg (.cst (.int 1)), .ite (.val (.chain .le .lt (.cst (.int 0)) (.pk 1) (.cst (.int 2)))) (.op2 .eq (.pk 1) (.cst (.int 1))) (.cst .non), .op1 .str_ (.pk 1), .op2 .add (.pk 1) (.cst (.int 9))])])] [],
  .ifs (.val (.op2 .eq (.op1 .len (.pk 1)) (.cst (.int 0)))) [.ret (.call 16 [.io 0, .e (.var 2)])] [],
  .par [3, 4] [.call 15 [.io 0, .e (.op1 .len (.pk 1))], .call 15 [.io 0, .e (.cst (.int 16))]],
  .ifs (.val (.op1 (.isi [.str]) (.pk 1))) [.ret (.call 16 [.io 0, .e (.lst [.op2 .add (.sl (.pk 1) (.no) (.e (.pk 3))) (.sl (.pk 1) (.e (.op2 .add (.pk 3) (.cst (.int 1)))) (.no)), .op2 .add (.pk 1) (.op2 .idx (.pk 1) (.pk 3)), .op1 .rev (.pk 1), .bad, .op1 .list (.pk 1)])])] [],
  .ifs (.val (.op2 .gt (.pk 4) (.cst (.int 3)))) [.ret (.op2 .add (.op2 .add (.sl (.pk 1) (.no) (.e (.pk 3))) (.tup [.call 24 [.io 0, .e (.op2 .idx (.pk 1) (.pk 3))]])) (.sl (.pk 1) (.e (.op2 .add (.pk 3) (.cst (.int 1)))) (.no)))] [],
  .ret (.op2 .idx (.lst [.op2 .add (.sl (.pk 1) (.no) (.e (.pk 3))) (.sl (.pk 1) (.e (.op2 .add (.pk 3) (.cst (.int 1)))) (.no)), .op2 .add (.op2 .add (.sl (.pk 1) (.no) (.e (.pk 3))) (.sl (.pk 1) (.e (.pk 3)) (.e (.op2 .add (.pk 3) (.cst (.int 1)))))) (.sl (.pk 1) (.e (.pk 3)) (.no)), .op1 .list (.pk 1), .op1 .rev (.pk 1)]) (.pk 4))]
/-- _law_far(web, bay): 0 web, 1 bay, 2 found, 3 level, 4 many, 5 later, 6 one, 7 other -/
def b25 : List IS := [.par [2, 3, 4] [.d1 (.var 1) (.cst (.int 0)), .lst [.var 1], .cst (.int 0)],
  .whl (.val (.op2 .ne (.pk 3) (.lst []))) [.par [4, 5] [.op2 .add (.pk 4) (.cst (.int 1)), .lst []],
  .for_ (.seq (.var 3)) (.nm 6) [.for_ (.seq (.call 17 [.e (.op2 .idx (.pk 0) (.cst (.int 1))), .e (.var 6)])) (.nm 7) [.ifs (.val (.op2 .nin (.pk 7) (.pk 2))) [.seti 2 (.pk 7) (.var 4),
  .app 5 (.var 7)] []]],
  .asg 3 (.var 5)],
  .retV 2]
/-- _law_path(web, a, b): 0 web, 1 a, 2 b, 3 far, 4 found, 5 .0, 6 other -/
def b26 : List IS := [.par [3, 4] [.call 25 [.e (.var 0), .e (.var 2)], .lst []],
  .whl (.val (.op2 .ne (.pk 1) (.pk 2))) [.asg 1 (.op1 .min_ (.comp (.seq (.call 17 [.e (.op2 .idx (.pk 0) (.cst (.int 1))), .e (.var 1)])) (.nm 6) [5, 6] [.val (.op2 .eq (.op2 .add (.op2 .idx (.pk 3) (.pk 6)) (.cst (.int 1))) (.op2 .idx (.pk 3) (.pk 1)))] (.var 6))),
  .app 4 (.var 1)],
  .retV 4]
/-- _law_is_bay(thing, n): 0 thing, 1 n -/
def b28 : List IS := [.ret (.and2 (.op1 (.isi [.int]) (.pk 0)) (.and2 (.op1 .not_ (.op1 (.isi [.bool]) (.pk 0))) (.chain .le .lt (.cst (.int 0)) (.pk 0) (.pk 1))))]
/-- _law_is_web(thing): 0 thing, 1 tie, 2 .0, 3 bay, 4 one, 5 other -/
def b29 : List IS := [.ifs (.or_ (.not_ (.val (.op1 (.isi [.tuple]) (.pk 0)))) (.or_ (.val (.op2 .ne (.op1 .len (.pk 0)) (.cst (.int 2)))) (.or_ (.not_ (.val (.call 28 [.e (.op2 .idx (.pk 0) (.cst (.int 0))), .e (.cst (.int 41))]))) (.val (.op2 .lt (.op2 .idx (.pk 0) (.cst (.int 0))) (.cst (.int 2))))))) [.ret (.cst (.bl false))] [],
  .ifs (.not_ (.val (.op1 (.isi [.tuple]) (.op2 .idx (.pk 0) (.cst (.int 1)))))) [.ret (.cst (.bl false))] [],
  .for_ (.seq (.op2 .idx (.pk 0) (.cst (.int 1)))) (.nm 1) [.ifs (.or_ (.not_ (.val (.op1 (.isi [.tuple]) (.pk 1)))) (.or_ (.val (.op2 .ne (.op1 .len (.pk 1)) (.cst (.int 2)))) (.val (.op2 .ne (.comp (.seq (.var 1)) (.nm 3) [2, 3] [.not_ (.val (.call 28 [.e (.var 3), .e (.op2 .idx (.pk 0) (.cst (.int 0)))]))] (.cst (.int 1))) (.lst []))))) [.ret (.cst (.bl false))] [],
  .ifs (.val (.op2 .ge (.op2 .idx (.pk 1) (.cst (.int 0))) (.op2 .idx (.pk 1) (.cst (.int 1))))) [.ret (.cst (.bl false))] []],
  .ifs (.val (.op2 .ne (.comp (.zip (.op2 .idx (.pk 0) (.cst (.int 1))) (.sl (.op2 .idx (.pk 0) (.cst (.int 1))) (.e (.cst (.int 1))) (.no))) (.nms [4, 5]) [2, 4, 5] [.val (.op2 .ge (.pk 4) (.pk 5))] (.cst (.int 1))) (.lst []))) [.ret (.cst (.bl false))] [],
  .ret (.op2 .eq (.op1 .len (.call 18 [.e (.op2 .idx (.pk 0) (.cst (.int 1))), .e (.cst (.int 0)), .e (.cst .non)])) (.op2 .idx (.pk 0) (.cst (.int 0))))]
/-- _law_sides(web): 0 web, 1 far, 2 .0, 3 a, 4 b, 5 bay -/
def b30 : List IS := [.asg 1 (.call 25 [.e (.var 0), .e (.cst (.int 0))]),
  .ifs (.val (.op2 .ne (.comp (.seq (.op2 .idx (.pk 0) (.cst (.int 1)))) (.nms [3, 4]) [2, 3, 4] [.val (.op2 .eq (.op2 .mod (.op1 .int_ (.op2 .add (.op2 .idx (.pk 1) (.pk 3)) (.op2 .idx (.pk 1) (.pk 4)))) (.cst (.int 2))) (.cst (.int 0)))] (.cst (.int 1))) (.lst []))) [.ret (.cst .non)] [],
  .ret (.op1 .tuple (.comp (.rng1 (.op2 .idx (.pk 0) (.cst (.int 0)))) (.nm 5) [2, 5] [] (.op2 .mod (.op1 .int_ (.op2 .idx (.pk 1) (.pk 5))) (.cst (.int 2)))))]
/-- _law_odd_webs(web): 0 web, 1 n, 2 ties, 3 odd, 4 .0, 5 k -/
def b31 : List IS := [.asgN [1, 2] (.var 0),
  .asg 3 (.lst [.cst .non, .cst (.int 7), .cst (.str "web"), .tup [], .lst [], .dnil, .tup [.var 1], .lst [.var 1, .var 2], .tup [.var 1, .op1 .list (.pk 2)], .tup [.var 1, .var 2, .cst (.int 0)], .tup [.op2 .add (.pk 1) (.cst (.int 1)), .var 2], .tup [.op2 .sub (.pk 1) (.cst (.int 1)), .var 2]]),
  .asg 3 (.op2 .add (.pk 3) (.lst [.tup [.var 1, .sl (.pk 2) (.e (.cst (.int 1))) (.no)], .tup [.var 1, .op1 .rev (.pk 2)], .tup [.var 1, .op2 .add (.pk 2) (.sl (.pk 2) (.no) (.e (.cst (.int 1))))], .tup [.var 1, .op2 .add (.pk 2) (.tup [.tup [.cst (.int 0), .var 1]])], .tup [.var 1, .op2 .add (.pk 2) (.tup [.tup [.cst (.int 0), .cst (.int 0)]])]])),
  .asg 3 (.op2 .add (.pk 3) (.lst [.tup [.cst (.int 1), .tup []], .tup [.cst (.int 2), .tup []], .tup [.cst (.int 2), .tup [.tup [.cst (.int 0), .cst (.int 1)]]], .tup [.cst (.int 2), .tup [.tup [.cst (.int 1), .cst (.int 0)]]], .tup [.cst (.bl true), .tup []], .tup [.cst (.int 2), .tup [.tup [.cst (.bl false), .cst (.int 1)]]]])),
  .asg 3 (.op2 .add (.pk 3) (.lst [.tup [.cst (.int 3), .tup [.tup [.cst (.int 0), .cst (.int 1)], .tup [.cst (.int 1), .cst (.int 2)]]], .tup [.cst (.int 3), .tup [.tup [.cst (.int 0), .cst (.int 1)]]], .tup [.cst (.int 4), .tup [.tup [.cst (.int 0), .cst (.int 1)], .tup [.cst (.int 2), .cst (.int 3)]]], .tup [.cst (.int 2), .tup [.tup [.cst (.int 0), .cst (.int 1), .cst (.int 1)]]]])),
  .asg 3 (.op2 .add (.pk 3) (.lst [.tup [.cst (.int 2), .tup [.lst [.cst (.int 0), .cst (.int 1)]]], .tup [.cst (.int 0), .tup []], .tup [.cst (.int 2), .tup [.cst (.int 0), .cst (.int 1)]], .tup [.cst (.int 2), .cst (.str "01")]])),
  .ret (.op2 .add (.pk 3) (.lst [.tup [.cst (.int 40), .op1 .tuple (.comp (.rng1 (.cst (.int 39))) (.nm 5) [4, 5] [] (.tup [.var 5, .op2 .add (.pk 5) (.cst (.int 1))]))], .tup [.cst (.int 41), .op1 .tuple (.comp (.rng1 (.cst (.int 40))) (.nm 5) [4, 5] [] (.tup [.var 5, .op2 .add (.pk 5) (.cst (.int 1))]))]]))]
/-- _law_refused_right(odd): 0 odd, 1 found -/
def b32 : List IS := [.asg 1 (.lst [.lam 0 [(1, .str "web"), (2, .str "bay"), (0, .str "odd")] (.str "none") (.call 7 [.e (.var 0), .e (.cst .non)])]),
  .app 1 (.lam 0 [(1, .str "web"), (2, .str "bay"), (0, .str "odd")] (.str "none") (.call 10 [.e (.var 0), .e (.cst .non), .e (.cst .non)])),
  .app 1 (.lam 0 [(1, .str "web"), (2, .str "bay"), (0, .str "odd")] (.str "none") (.call 12 [.e (.var 0)])),
  .ret (.op2 .eq (.pk 1) (.op2 .mul (.lst [.cst (.str "web")]) (.cst (.int 3))))]
/-- _law_bays_right(web): 0 web, 1 found, 2 bay -/
def b33 : List IS := [.for_ (.seq (.lst [.cst .non, .op1 .neg (.cst (.int 1)), .op2 .idx (.pk 0) (.cst (.int 0)), .cst (.bl true), .cst (.bl false), .cst (.str "0"), .tup [.cst (.int 0)], .lst [.cst (.int 0)], .dnil, .op2 .pow (.cst (.int 10)) (.cst (.int 20))])) (.nm 2) [.asg 1 (.lst [.lam 0 [(1, .str "web"), (2, .str "bay"), (0, .str "odd")] (.str "none") (.call 7 [.e (.var 0), .e (.var 2)])]),
  .app 1 (.lam 0 [(1, .str "web"), (2, .str "bay"), (0, .str "odd")] (.str "none") (.call 10 [.e (.var 0), .e (.var 2), .e (.cst .non)])),
  .app 1 (.lam 0 [(1, .str "web"), (2, .str "bay"), (0, .str "odd")] (.str "none") (.call 10 [.e (.var 0), .e (.cst (.int 0)), .e (.var 2)])),
  .ifs (.val (.op2 .ne (.pk 1) (.op2 .mul (.lst [.cst (.str "bay")]) (.cst (.int 3))))) [.ret (.cst (.bl false))] []],
  .ret (.cst (.bl true))]
/-- _law_great_right(pen): 0 pen, 1 n, 2 ties, 3 turn, 4 a, 5 web, 6 b, 7 told, 8 .0, 9 k -/
def b34 : List IS := [.asg 1 (.op2 .add (.cst (.int 28)) (.call 15 [.io 0, .e (.cst (.int 13))])),
  .asg 2 (.op2 .add (.comp (.rng1 (.op2 .sub (.pk 1) (.cst (.int 1)))) (.nm 9) [8, 9] [] (.tup [.var 9, .op2 .add (.pk 9) (.cst (.int 1))])) (.lst [.tup [.cst (.int 0), .op2 .sub (.pk 1) (.cst (.int 1))]])),
  .for_ (.rng1 (.call 15 [.io 0, .e (.cst (.int 4))])) (.nm 3) [.asg 4 (.call 15 [.io 0, .e (.op2 .sub (.pk 1) (.cst (.int 6)))]),
  .app 2 (.tup [.var 4, .op2 .add (.op2 .add (.pk 4) (.cst (.int 3))) (.call 15 [.io 0, .e (.cst (.int 3))])])],
  .asg 5 (.tup [.var 1, .call 20 [.e (.op1 .sset (.pk 2)), .e (.call 19 [.io 0, .e (.var 1)])]]),
  .ifs (.or_ (.val (.op2 .isnt (.call 4 [.e (.var 5)]) (.cst (.bl true)))) (.val (.op2 .ne (.op1 .repr_ (.call 12 [.e (.var 5)])) (.op1 .repr_ (.call 30 [.e (.var 5)]))))) [.ret (.cst (.bl false))] [],
  .par [4, 6] [.call 15 [.io 0, .e (.var 1)], .call 15 [.io 0, .e (.var 1)]],
  .asg 7 (.lst [.call 10 [.e (.var 5), .e (.var 4), .e (.var 6)], .call 10 [.e (.var 5), .e (.var 6), .e (.var 4)], .call 7 [.e (.var 5), .e (.var 4)]]),
  .ret (.op2 .eq (.op1 .repr_ (.pk 7)) (.op1 .repr_ (.lst [.call 26 [.e (.var 5), .e (.var 4), .e (.var 6)], .call 26 [.e (.var 5), .e (.var 6), .e (.var 4)], .call 17 [.e (.op2 .idx (.pk 5) (.cst (.int 1))), .e (.var 4)]])))]
/-- law(script): 0 script, 1 pen, 2 turn, 3 web, 4 text, 5 bay, 6 told, 7 other, 8 thing, 9 was, 10 is_due, 11 .0, 12 again -/
def b35 : List IS := [.asg 1 (.call 13 [.e (.var 0)]),
  .for_ (.rng1 (.cst (.int 2))) (.nm 2) [.asg 3 (.call 23 [.io 1, .e (.cst (.int 8)), .e (.cst (.int 6))]),
  .asg 4 (.op1 .repr_ (.pk 3)),
  .for_ (.rng1 (.op2 .idx (.pk 3) (.cst (.int 0)))) (.nm 5) [.asg 6 (.call 7 [.e (.var 3), .e (.var 5)]),
  .ifs (.val (.op2 .ne (.op1 .repr_ (.pk 6)) (.op1 .repr_ (.call 17 [.e (.op2 .idx (.pk 3) (.cst (.int 1))), .e (.var 5)])))) [.ret (.cst (.bl false))] [],
  .app 6 (.cst .non),
  .for_ (.rng1 (.op2 .idx (.pk 3) (.cst (.int 0)))) (.nm 7) [.asg 6 (.call 10 [.e (.var 3), .e (.var 5), .e (.var 7)]),
  .ifs (.val (.op2 .ne (.op1 .repr_ (.pk 6)) (.op1 .repr_ (.call 26 [.e (.var 3), .e (.var 5), .e (.var 7)])))) [.ret (.cst (.bl false))] [],
  .app 6 (.cst .non)]],
  .ifs (.or_ (.val (.op2 .ne (.op1 .repr_ (.call 12 [.e (.var 3)])) (.op1 .repr_ (.call 30 [.e (.var 3)])))) (.val (.op2 .ne (.op1 .repr_ (.pk 3)) (.pk 4)))) [.ret (.cst (.bl false))] [],
  .for_ (.seq (.op2 .add (.op2 .add (.call 31 [.e (.var 3)]) (.lst [.var 3])) (.comp (.rng1 (.cst (.int 6))) (.nm 12) [11, 12] [] (.call 24 [.io 1, .e (.var 3)])))) (.nm 8) [.par [9, 10] [.op1 .repr_ (.pk 8), .call 29 [.e (.var 8)]],
  .ifs (.or_ (.val (.op2 .ne (.op1 .repr_ (.call 4 [.e (.var 8)])) (.op1 .repr_ (.pk 10)))) (.val (.op2 .ne (.op1 .repr_ (.pk 8)) (.pk 9)))) [.ret (.cst (.bl false))] [],
  .ifs (.and_ (.not_ (.val (.pk 10))) (.not_ (.val (.call 32 [.e (.var 8)])))) [.ret (.cst (.bl false))] []],
  .ifs (.not_ (.val (.call 33 [.e (.var 3)]))) [.ret (.cst (.bl false))] []],
  .ret (.call 34 [.io 1])]
end B

set_option Elab.async false
set_option linter.all false
set_option maxRecDepth 100000
/-! How the language's defs are evaluated: the table, calls. -/
namespace M
open PySem Sb
def TB : Nat → Option Def
  | 0 => some ⟨3, 3, B.b0⟩
  | 1 => some ⟨2, 2, B.b1⟩
  | 2 => some ⟨2, 5, B.b2⟩
  | 3 => some ⟨3, 6, B.b3⟩
  | 4 => some ⟨1, 3, B.b4⟩
  | 5 => some ⟨1, 1, B.b5⟩
  | 6 => some ⟨2, 2, B.b6⟩
  | 7 => some ⟨2, 2, B.b7⟩
  | 8 => some ⟨2, 6, B.b8⟩
  | 9 => some ⟨3, 7, B.b9⟩
  | 10 => some ⟨3, 3, B.b10⟩
  | 11 => some ⟨2, 8, B.b11⟩
  | 12 => some ⟨1, 4, B.b12⟩
  | 13 => some ⟨1, 4, B.b13⟩
  | 14 => some ⟨2, 6, B.b14⟩
  | 15 => some ⟨2, 5, B.b15⟩
  | 16 => some ⟨2, 2, B.b16⟩
  | 17 => some ⟨2, 5, B.b17⟩
  | 18 => some ⟨3, 6, B.b18⟩
  | 19 => some ⟨2, 5, B.b19⟩
  | 20 => some ⟨2, 5, B.b20⟩
  | 21 => some ⟨3, 6, B.b21⟩
  | 22 => some ⟨2, 11, B.b22⟩
  | 23 => some ⟨3, 13, B.b23⟩
  | 24 => some ⟨2, 5, B.b24⟩
  | 25 => some ⟨2, 8, B.b25⟩
  | 26 => some ⟨3, 7, B.b26⟩
  | 28 => some ⟨2, 2, B.b28⟩
  | 29 => some ⟨1, 6, B.b29⟩
  | 30 => some ⟨1, 6, B.b30⟩
  | _ => none
/-- a table that holds these -/
def Ext (T : Nat → Option Def) : Prop := ∀ f d, TB f = some d → T f = some d
/-- how a def ends -/
def fin (ss : List Slot) : RS → FR
  | .nxt e => .ok false .non (bk ss e)
  | .ret fr d e => .ok fr d (bk ss e)
  | .ex c e => .ex c (bk ss e)
  | .cnt _ => .bad
  | .bad => .bad
@[simp] theorem fin_nxt {ss e} : fin ss (.nxt e) = .ok false .non (bk ss e) := rfl
@[simp] theorem fin_ret {ss fr d e} : fin ss (.ret fr d e) = .ok fr d (bk ss e) := rfl
@[simp] theorem fin_ex {ss c e} : fin ss (.ex c e) = .ex c (bk ss e) := rfl
theorem call_eq {T : Nat → Option Def} {sub : Nat → Nat → Bool} {wf n f np nn : Nat} {b : List IS} {ss : List Slot} (h : T f = some ⟨np, nn, b⟩) (hl : ss.length = np) :
    callD T sub wf (n + 1) f ss = fin ss (evSs (callD T sub wf n) sub wf b (ss ++ List.replicate (nn - np) .no)) := by
  rw [callD, h]
  show runDef _ _ _ _ _ = _
  unfold runDef
  rw [if_pos hl]
  cases evSs (callD T sub wf n) sub wf b (ss ++ List.replicate (nn - np) .no) <;> rfl
/-- a slot that is read -/
@[reducible] def v (d : D) : Slot := .shr false d
section
variable {C : Cal} {sub : Nat → Nat → Bool} {wf : Nat} {e : Sb.Env}
@[simp] theorem bnd_ok {α β : Type} {a : α} {f : α → Sb.Env → R β} : (R.ok a e).bnd f = f a e := rfl
@[simp] theorem bnd_ex {α β : Type} {c : Nat} {f : α → Sb.Env → R β} : (R.ex c e).bnd f = .ex c e := rfl
@[simp] theorem bnd_bad {α β : Type} {f : α → Sb.Env → R β} : (R.bad : R α).bnd f = .bad := rfl
@[simp] theorem toS_ok {α : Type} {a : α} {f : α → Sb.Env → RS} : (R.ok a e).toS f = f a e := rfl
@[simp] theorem toS_ex {α : Type} {c : Nat} {f : α → Sb.Env → RS} : (R.ex c e).toS f = .ex c e := rfl
@[simp] theorem toS_bad {α : Type} {f : α → Sb.Env → RS} : (R.bad : R α).toS f = .bad := rfl
@[simp] theorem nxt_bnd {f : Sb.Env → RS} : (RS.nxt e).bnd f = f e := rfl
@[simp] theorem ret_bnd {f : Sb.Env → RS} {fr d} : (RS.ret fr d e).bnd f = .ret fr d e := rfl
@[simp] theorem ex_bnd {f : Sb.Env → RS} {c} : (RS.ex c e).bnd f = .ex c e := rfl
@[simp] theorem kFD_some {x : FD} : kFD (some x) e = .ok (if x.1 then .fr else .shr, x.2) e := rfl
@[simp] theorem stl_shr {d} : stl (.shr, d) e = some d := rfl
@[simp] theorem stl_fr {d} : stl (.fr, d) e = some d := rfl
@[simp] theorem stl_pk {d i} : stl (.pk i, d) e = (e[i]?).bind Slot.cont := rfl
@[simp] theorem emb_shr {d} : emb (.shr, d) = some d := rfl
@[simp] theorem emb_fr {d} : emb (.fr, d) = some d := rfl
@[simp] theorem emb_pk {d i} : emb (.pk i, d) = none := rfl
@[simp] theorem cont_no : Slot.cont .no = none := rfl
@[simp] theorem cont_shr {p d} : Slot.cont (.shr p d) = some d := rfl
@[simp] theorem cont_own {p d} : Slot.cont (.own p d) = some d := rfl
@[simp] theorem pin_no : Slot.pin .no = false := rfl
@[simp] theorem pin_shr {p d} : Slot.pin (.shr p d) = p := rfl
@[simp] theorem pin_own {p d} : Slot.pin (.own p d) = p := rfl
@[simp] theorem isOwn_no : Slot.isOwn .no = false := rfl
@[simp] theorem isOwn_shr {p d} : Slot.isOwn (.shr p d) = false := rfl
@[simp] theorem isOwn_own {p d} : Slot.isOwn (.own p d) = true := rfl
@[simp] theorem ap1_eq {o x} : ap1 o x e = match stl x e with | some a => kFD (op1D o a) e | none => .bad := rfl
@[simp] theorem ap2_eq {o x y} : ap2 o x y e = match stl x e, stl y e with | some a, some b => kFD (op2D o a b) e | _, _ => .bad := rfl
@[simp] theorem optE_some {α : Type} {a : α} : optE (some a) e = .ok a e := rfl
@[simp] theorem optEnv_some {α : Type} {f : Sb.Env → R α} {e} : optEnv (some e) f = f e := rfl
@[simp] theorem optS_some : optS (some e) = .nxt e := rfl
@[simp] theorem kSlot_shr {d} : kSlot (.shr, d) = some (.shr false d) := rfl
@[simp] theorem kSlot_fr {d} : kSlot (.fr, d) = some (.own false d) := rfl
@[simp] theorem calm_ok {α : Type} {a : α} : (R.ok a e).calm = .ok a e := rfl
@[simp] theorem bk_nil {e} : bk [] e = [] := by cases e <;> rfl
@[simp] theorem bk_cons {s t ss} : bk (s :: ss) (t :: e) = (if s.isOwn then t else s) :: bk ss e := rfl
/-- by a truth value -/
def bm (x : KD) (t f : R KD) : R KD := match x with
  | (.shr, .bl true) => t
  | (.shr, .bl false) => f
  | _ => .bad
@[simp] theorem bm_bl {b t f} : bm (.shr, .bl b) t f = if b then t else f := by cases b <;> rfl
/-! expressions -/
@[simp] theorem ev_cst {d} : evE C sub (.cst d) e = .ok (.shr, d) e := by rw [evE] <;> rfl
@[simp] theorem ev_var {i} : evE C sub (.var i) e = frzS i e := by rw [evE] <;> rfl
@[simp] theorem ev_pk {i} : evE C sub (.pk i) e = match e[i]? with | some s => (match s.cont with | some d => .ok (.pk i, d) e | none => .bad) | none => .bad := by rw [evE] <;> rfl
@[simp] theorem ev_op1 {o a} : evE C sub (.op1 o a) e = (evE C sub a e).bnd (ap1 o) := by rw [evE] <;> rfl
@[simp] theorem ev_op2 {o a b} : evE C sub (.op2 o a b) e = (evE C sub a e).bnd fun x e1 => (evE C sub b e1).bnd fun y e2 => ap2 o x y e2 := by rw [evE] <;> rfl
@[simp] theorem ev_and2 {a b} : evE C sub (.and2 a b) e = (evE C sub a e).bnd fun x e1 => bm x (evE C sub b e1) (.ok (.shr, .bl false) e1) := by rw [evE] <;> rfl
@[simp] theorem ev_or2 {a b} : evE C sub (.or2 a b) e = (evE C sub a e).bnd fun x e1 => bm x (.ok (.shr, .bl true) e1) (evE C sub b e1) := by rw [evE] <;> rfl
@[simp] theorem ev_ite {c a b} : evE C sub (.ite c a b) e = (evT C sub c e).bnd fun k e1 => if k then evE C sub a e1 else evE C sub b e1 := by rw [evE] <;> rfl
@[simp] theorem ev_chain {o o' a b c} : evE C sub (.chain o o' a b c) e = (evE C sub a e).bnd fun x e1 => (evE C sub b e1).bnd fun y e2 => (ap2 o x y e2).bnd fun r e3 => bm r ((evE C sub c e3).bnd fun z e4 => ap2 o' y z e4) (.ok (.shr, .bl false) e3) := by rw [evE] <;> rfl
@[simp] theorem ev_tup {es} : evE C sub (.tup es) e = (evEs C sub es e).bnd fun ds e1 => .ok (.shr, .tup ds) e1 := by rw [evE] <;> rfl
@[simp] theorem ev_lst {es} : evE C sub (.lst es) e = (evEs C sub es e).bnd fun ds e1 => .ok (.fr, .lst ds) e1 := by rw [evE] <;> rfl
@[simp] theorem ev_dnil : evE C sub .dnil e = .ok (.fr, .dct [] []) e := by rw [evE] <;> rfl
@[simp] theorem ev_d1 {k w} : evE C sub (.d1 k w) e = (evE C sub k e).bnd fun x e1 => (evE C sub w e1).bnd fun y e2 => match emb x, emb y with
    | some (.int i), some d => .ok (.fr, .dct [.int i] [d]) e2
    | _, _ => .bad := by rw [evE] <;> rfl
@[simp] theorem ev_sl {a lo hi} : evE C sub (.sl a lo hi) e = (evE C sub a e).bnd fun x e1 => (evO C sub lo e1).bnd fun l e2 => (evO C sub hi e2).bnd fun h e3 => match stl x e3 with
    | some d => kFD (slD d l h) e3
    | none => .bad := by rw [evE] <;> rfl
@[simp] theorem ev_call {f as} : evE C sub (.call f as) e = (evAs C sub as e).bnd fun vs e1 => doCall C f vs e1 := by rw [evE] <;> rfl
/-- a turn of a comprehension -/
def cturn (C : Cal) (sub : Nat → Nat → Bool) (own : List Nat) (t : Tg) (ts : List IT) (el : IE) (x : D) (s : Sb.Env) : R (Option D) :=
  inB own (fun s0 => optEnv (asgT t x s0) fun s1 => (evTs C sub ts s1).bnd fun k s2 => if k then (evE C sub el s2).bnd fun y s3 => (optE (emb y) s3).bnd fun d s4 => .ok (some d) s4 else .ok none s2) s
def dturn (C : Cal) (sub : Nat → Nat → Bool) (own : List Nat) (t : Tg) (k w : IE) (x : D) (s : Sb.Env) : R (Int × D) :=
  inB own (fun s0 => optEnv (asgT t x s0) fun s1 => (evE C sub k s1).bnd fun a s2 => (evE C sub w s2).bnd fun b s3 => match emb a, emb b with
          | some (.int i), some d => .ok (i, d) s3
          | _, _ => .bad) s
@[simp] theorem ev_comp {it t own ts el} : evE C sub (.comp it t own ts el) e = (evI C sub it e).bnd fun ds e1 => if ds.length ≤ lim then
      (loopC (cturn C sub own t ts el) ds e1).calm.bnd fun r e2 => .ok (.fr, .lst r) e2
    else .bad := by rw [evE] <;> rfl
@[simp] theorem ev_dcomp {it t own k w} : evE C sub (.dcomp it t own k w) e = (evI C sub it e).bnd fun ds e1 => if ds.length ≤ lim then
      (loopD (dturn C sub own t k w) ds e1 ([], [])).calm.bnd fun r e2 => .ok (.fr, .dct r.1 r.2) e2
    else .bad := by rw [evE] <;> rfl
@[simp] theorem ev_lam {j hs d b} : evE C sub (.lam j hs d b) e = match evE C sub b e with
    | .ok _ e1 => .ok (.shr, d) e1
    | .ex c e1 => if sub c c then match handle sub c hs with
      | some r => .ok (.shr, r) e1
      | none => .bad
      else .bad
    | .bad => .bad := by rw [evE] <;> rfl
@[simp] theorem ev_pop {i} : evE C sub (.pop i) e = match e[i]? with
    | some (.own p (.lst ds)) => match ds.getLast? with
      | some d => .ok (.shr, d) (e.set i (.own p (.lst ds.dropLast)))
      | none => .bad
    | _ => .bad := by rw [evE] <;> rfl
@[simp] theorem ev_popAt {i k} : evE C sub (.popAt i k) e = match e[i]? with
    | some (.own _ (.lst _)) => (evE C sub k e).bnd fun x e1 => match stl x e1 with
      | some (.int j) => match e1[i]? with
        | some (.own p (.lst ds)) => match L2.ixN ds.length j with
          | some n => match ds[n]? with
            | some d => if ds.length ≤ lim then .ok (.shr, d) (e1.set i (.own p (.lst (ds.eraseIdx n)))) else .bad
            | none => .bad
          | none => .bad
        | _ => .bad
      | _ => .bad
    | _ => .bad := by rw [evE] <;> rfl
/-! tests -/
@[simp] theorem ev_val {a} : evT C sub (.val a) e = (evE C sub a e).bnd fun x e1 => match stl x e1 with
    | some d => optE (truthD d) e1
    | none => .bad := by rw [evT] <;> rfl
@[simp] theorem ev_not {t} : evT C sub (.not_ t) e = (evT C sub t e).bnd fun k e1 => .ok (!k) e1 := by rw [evT] <;> rfl
@[simp] theorem ev_and {a b} : evT C sub (.and_ a b) e = (evT C sub a e).bnd fun k e1 => if k then evT C sub b e1 else .ok false e1 := by rw [evT] <;> rfl
@[simp] theorem ev_or {a b} : evT C sub (.or_ a b) e = (evT C sub a e).bnd fun k e1 => if k then .ok true e1 else evT C sub b e1 := by rw [evT] <;> rfl
@[simp] theorem ev_no : evO C sub .no e = .ok none e := by rw [evO] <;> rfl
@[simp] theorem ev_e {a} : evO C sub (.e a) e = (evE C sub a e).bnd fun x e1 => match stl x e1 with
    | some (.int i) => .ok (some i) e1
    | _ => .bad := by rw [evO] <;> rfl
@[simp] theorem ev_es0 : evEs C sub [] e = .ok [] e := by rw [evEs] <;> rfl
@[simp] theorem ev_es1 {a r} : evEs C sub (a :: r) e = (evE C sub a e).bnd fun x e1 => (optE (emb x) e1).bnd fun d e2 => (evEs C sub r e2).bnd fun ds e3 => .ok (d :: ds) e3 := by rw [evEs] <;> rfl
@[simp] theorem ev_as0 : evAs C sub [] e = .ok [] e := by rw [evAs] <;> rfl
@[simp] theorem ev_as1 {a r} : evAs C sub (a :: r) e = (evA C sub a e).bnd fun x e1 => (evAs C sub r e1).bnd fun xs e2 => .ok (x :: xs) e2 := by rw [evAs] <;> rfl
@[simp] theorem ev_ae {a} : evA C sub (.e a) e = (evE C sub a e).bnd fun x e1 => (optE (emb x) e1).bnd fun d e2 => .ok (.val d) e2 := by rw [evA] <;> rfl
@[simp] theorem ev_aio {i} : evA C sub (.io i) e = match (e[i]?).bind Slot.cont with | some _ => .ok (.io i) e | none => .bad := by rw [evA] <;> rfl
@[simp] theorem ev_ts0 : evTs C sub [] e = .ok true e := by rw [evTs] <;> rfl
@[simp] theorem ev_ts1 {t} : evTs C sub [t] e = evT C sub t e := by rw [evTs] <;> rfl
@[simp] theorem ev_seq {a} : evI C sub (.seq a) e = (evE C sub a e).bnd fun x e1 => (optE ((emb x).bind itemsOf) e1) := by rw [evI] <;> rfl
@[simp] theorem ev_rng1 {a} : evI C sub (.rng1 a) e = (evE C sub a e).bnd fun x e1 => match stl x e1 with
    | some (.int n) => if decide (-(2 ^ 62) ≤ n) && decide (n ≤ lim) then .ok ((List.range n.toNat).map fun (k : Nat) => .int k) e1 else .bad
    | _ => .bad := by rw [evI] <;> rfl
@[simp] theorem ev_rng2 {a b} : evI C sub (.rng2 a b) e = (evE C sub a e).bnd fun x e1 => (evE C sub b e1).bnd fun y e2 => match stl x e2, stl y e2 with
    | some (.int m), some (.int n) => if decide (-(lim : Int) ≤ m) && decide (m ≤ lim) && decide (-(lim : Int) ≤ n) && decide (n ≤ lim) then .ok ((List.range (n - m).toNat).map fun (k : Nat) => .int (m + k)) e2 else .bad
    | _, _ => .bad := by rw [evI] <;> rfl
@[simp] theorem ev_enum {a} : evI C sub (.enum a) e = (evE C sub a e).bnd fun x e1 => match emb x with
    | some (.lst ds) => .ok (enumFrom 0 ds) e1
    | _ => .bad := by rw [evI] <;> rfl
@[simp] theorem ev_zip {a b} : evI C sub (.zip a b) e = (evE C sub a e).bnd fun x e1 => (evE C sub b e1).bnd fun y e2 => match emb x, emb y with
    | some (.lst u), some (.lst w) => .ok (zipD u w) e2
    | some (.tup u), some (.tup w) => .ok (zipD u w) e2
    | _, _ => .bad := by rw [evI] <;> rfl
@[simp] theorem ev_items {a} : evI C sub (.items a) e = (evE C sub a e).bnd fun x e1 => match x with
    | (.fr, .dct ks vs) => .ok (zipD ks vs) e1
    | _ => .bad := by rw [evI] <;> rfl
/-! statements -/
@[simp] theorem ev_ss0 : evSs C sub wf [] e = .nxt e := by rw [evSs] <;> rfl
@[simp] theorem ev_ss1 {s r} : evSs C sub wf (s :: r) e = (evS C sub wf s e).bnd (evSs C sub wf r) := by rw [evSs] <;> rfl
@[simp] theorem ev_asg {i a} : evS C sub wf (.asg i a) e = (evE C sub a e).toS fun x e1 => match kSlot x with
    | some s => optS (setS i s e1)
    | none => .bad := by rw [evS] <;> rfl
@[simp] theorem ev_asgN {is a} : evS C sub wf (.asgN is a) e = (evE C sub a e).toS fun x e1 => match emb x with
    | some d => optS (asgT (.nms is) d e1)
    | none => .bad := by rw [evS] <;> rfl
@[simp] theorem ev_par {is es} : evS C sub wf (.par is es) e = if is.Nodup then (evPar C sub es e).toS fun ks e1 => optS (setP is ks e1) else .bad := by rw [evS] <;> rfl
@[simp] theorem ev_aug {i a} : evS C sub wf (.aug i a) e = match (e[i]?).bind Slot.cont with
    | some (.int x) => (evE C sub a e).toS fun y e1 => match stl y e1 with
      | some (.int z) => optS (setS i (.shr false (.int (x + z))) e1)
      | _ => .bad
    | _ => .bad := by rw [evS] <;> rfl
@[simp] theorem ev_seti {i ix a} : evS C sub wf (.seti i ix a) e = (evE C sub a e).toS fun y e1 => match emb y, (e1[i]?).bind Slot.cont with
    | some d, some _ => (evE C sub ix e1).toS fun k e2 => match stl k e2 with
      | some j => optS (setiE i j d e2)
      | none => .bad
    | _, _ => .bad := by rw [evS] <;> rfl
@[simp] theorem ev_app {i a} : evS C sub wf (.app i a) e = match e[i]? with
    | some (.own _ (.lst _)) => (evE C sub a e).toS fun y e1 => match emb y, e1[i]? with
      | some d, some (.own p (.lst ds)) => if ds.length < lim then .nxt (e1.set i (.own p (.lst (ds ++ [d])))) else .bad
      | _, _ => .bad
    | _ => .bad := by rw [evS] <;> rfl
@[simp] theorem ev_exp {a} : evS C sub wf (.exp a) e = (evE C sub a e).toS fun _ e1 => .nxt e1 := by rw [evS] <;> rfl
@[simp] theorem ev_ifs {c a b} : evS C sub wf (.ifs c a b) e = (evT C sub c e).toS fun k e1 => if k then evSs C sub wf a e1 else evSs C sub wf b e1 := by rw [evS] <;> rfl
def optB (o : Option Sb.Env) (f : Sb.Env → RS) : RS := match o with
  | some s => f s
  | none => .bad
@[simp] theorem optB_some {f : Sb.Env → RS} {s} : optB (some s) f = f s := rfl
/-- a turn of a loop -/
def turn (C : Cal) (sub : Nat → Nat → Bool) (wf : Nat) (t : Tg) (b : List IS) (x : D) (s : Sb.Env) : RS := optB (asgT t x s) (evSs C sub wf b)
@[simp] theorem ev_for {it t b} : evS C sub wf (.for_ it t b) e = (evI C sub it e).toS fun ds e1 => loopF (turn C sub wf t b) ds e1 := by rw [evS] <;> rfl
@[simp] theorem ev_whl {c b} : evS C sub wf (.whl c b) e = loopW (evT C sub c) (evSs C sub wf b) wf e := by rw [evS] <;> rfl
@[simp] theorem ev_retV {i} : evS C sub wf (.retV i) e = match e[i]? with
    | some (.shr _ d) => .ret false d e
    | some (.own false d) => .ret true d (e.set i .no)
    | some (.own true d) => .ret false d (e.set i (.shr true d))
    | _ => .bad := by rw [evS] <;> rfl
@[simp] theorem ev_ret {a} : evS C sub wf (.ret a) e = (evE C sub a e).toS fun x e1 => match x with
    | (.shr, d) => .ret false d e1
    | (.fr, d) => .ret true d e1
    | _ => .bad := by rw [evS] <;> rfl
@[simp] theorem ev_rse {c} : evS C sub wf (.rse c) e = .ex c e := by rw [evS] <;> rfl
@[simp] theorem ev_pas : evS C sub wf .pas e = .nxt e := by rw [evS] <;> rfl
@[simp] theorem evPar0 : evPar C sub [] e = .ok [] e := by rw [evPar] <;> rfl
@[simp] theorem evPar1 {a r} : evPar C sub (a :: r) e = (evE C sub a e).bnd fun x e1 => (evPar C sub r e1).bnd fun xs e2 => .ok (x :: xs) e2 := by rw [evPar] <;> rfl
@[simp] theorem setS_eq {i s} : setS i s e = match e[i]? with | some t => (if t.pin then none else some (e.set i s)) | none => none := rfl
@[simp] theorem setP0 : setP [] [] e = some e := rfl
@[simp] theorem setP1 {i is k ks} : setP (i :: is) (k :: ks) e = match kSlot k with | some s => (setS i s e).bind (setP is ks) | none => none := rfl
@[simp] theorem setN0 : setN [] [] e = some e := rfl
@[simp] theorem setN1 {i is d ds} : setN (i :: is) (d :: ds) e = (setS i (.shr false d) e).bind (setN is ds) := rfl
@[simp] theorem asgT_nm {i d} : asgT (.nm i) d e = setS i (.shr false d) e := rfl
@[simp] theorem asgT_nms {is ds} : asgT (.nms is) (.tup ds) e = setN is ds e := rfl
@[simp] theorem frzS_eq {i} : frzS i e = match e[i]? with
  | some (.shr _ d) => .ok (.shr, d) e
  | some (.own p d) => .ok (.shr, d) (e.set i (.shr p d))
  | _ => .bad := rfl
@[simp] theorem wipe1_eq {i} : wipe1 i e = match e[i]? with
  | some .no => some e
  | some (.shr _ _) => some (e.set i .no)
  | _ => none := rfl
@[simp] theorem wipe0 : wipeE [] e = some e := rfl
@[simp] theorem wipeS {i is} : wipeE (i :: is) e = (wipeE is e).bind (wipe1 i) := rfl
@[simp] theorem back0 {e'} : backE [] e' e = e := rfl
@[simp] theorem backS {i is e0} : backE (i :: is) e0 e = match e0[i]? with | some s => (backE is e0 e).set i s | none => backE is e0 e := rfl
@[simp] theorem inB_eq {α : Type} {own} {f : Sb.Env → R α} {s} : inB own f s = optEnv (wipeE own s) fun s0 => (f s0).bnd fun o s4 => .ok o (backE own s s4) := rfl
@[simp] theorem slotOf_val {d} : slotOf (.val d) e = some (.shr false d) := rfl
@[simp] theorem slotOf_io {i} : slotOf (.io i) e = match e[i]? with
    | some (.shr _ d) => some (.shr false d)
    | some (.own _ d) => some (.own true d)
    | _ => none := rfl
@[simp] theorem slots0 : slotsOf [] e = some [] := rfl
@[simp] theorem slots1 {a as} : slotsOf (a :: as) e = match slotOf a e, slotsOf as e with | some s, some ss => some (s :: ss) | _, _ => none := rfl
@[simp] theorem ios0 : iosOf [] = [] := rfl
@[simp] theorem iosV {d r} : iosOf (.val d :: r) = iosOf r := rfl
@[simp] theorem iosI {i r} : iosOf (.io i :: r) = i :: iosOf r := rfl
@[simp] theorem doCall_eq {f as} : doCall C f as e = if (iosOf as).Nodup then match slotsOf as e with
    | some ss => match C f ss with
      | .ok fr d ss' => .ok (if fr then .fr else .shr, d) (putBack as ss' e)
      | .ex c ss' => .ex c (putBack as ss' e)
      | .bad => .bad
    | none => .bad
  else .bad := rfl
@[simp] theorem pb_v {d as s ss} : putBack (.val d :: as) (s :: ss) e = putBack as ss e := rfl
@[simp] theorem pb_i {i as s ss} : putBack (.io i :: as) (s :: ss) e = putBack as ss (match e[i]? with | some t => e.set i (b1 t s) | none => e) := rfl
@[simp] theorem pb_0 {ss} : putBack [] ss e = e := by cases ss <;> rfl
@[simp] theorem b1_oo {p q d d'} : b1 (.own p d) (.own q d') = .own p d' := rfl
@[simp] theorem b1_os {p q d d'} : b1 (.own p d) (.shr q d') = .shr p d' := rfl
@[simp] theorem b1_s {p d t} : b1 (.shr p d) t = .shr p d := rfl
@[simp] theorem setiE_eq {i ix d} : setiE i ix d e = match e[i]?, ix with
  | some (.own p (.lst ds)), .int j => (L2.ixN ds.length j).map fun n => e.set i (.own p (.lst (ds.set n d)))
  | some (.own p (.dct ks vs)), .int j => if ks.length < lim then some (e.set i (.own p (.dct (putK ks vs j d).1 (putK ks vs j d).2))) else none
  | _, _ => none := rfl
end
/-- no instance, no script -/
def plainD : D → Bool
  | .obj _ _ => false
  | .scr _ => false
  | _ => true
@[simp] theorem isi_eq {ts : List Ty} {d : D} (h : plainD d = true) : op1D (.isi ts) d = some (false, .bl (ts.any (isTy d))) := by
  cases d <;> first | rfl | (cases h)
def within : D → Int → Int → Bool
  | .int i, l, m => decide (l ≤ i) && decide (i ≤ m)
  | _, _, _ => false
section
variable {T : Nat → Option Def} {sub : Nat → Nat → Bool} {wf n : Nat}
theorem e_within (hT : Ext T) {x : D} {l m : Int} (hx : plainD x = true) : callD T sub wf (n + 1) 0 [v x, v (.int l), v (.int m)] = .ok false (.bl (within x l m)) [v x, v (.int l), v (.int m)] := by
  rw [call_eq (hT 0 _ rfl) rfl]
  cases x with
  | int i => by_cases h : l ≤ i <;> simp [B.b0, isTy, op1D, op2D, within, oBl, oInt, h]
  | obj _ _ => cases hx
  | scr _ => cases hx
  | bl _ => simp [B.b0, isTy, op1D, op2D, within, oBl, oInt, plainD]
  | _ => simp [B.b0, isTy, op1D, op2D, within, oBl, oInt, plainD]
end
end M

set_option Elab.async false
set_option linter.all false
set_option maxRecDepth 100000
/-! Operations on data that are known; loops. -/
namespace M
open PySem Sb
@[simp] theorem atD_nat {ds : List D} {j : Nat} : atD ds (j : Int) = ds[j]? := by
  unfold atD L2.atI L2.ixN
  rw [if_pos (by omega)]
  by_cases h : j < ds.length
  · rw [if_pos (by omega)]; simp
  · rw [if_neg (by omega)]
    simp only [Option.bind_none]
    rw [List.getElem?_eq_none (by omega)]
@[simp] theorem atD_0 {ds : List D} : atD ds 0 = ds[0]? := atD_nat (j := 0)
@[simp] theorem atD_1 {ds : List D} : atD ds 1 = ds[1]? := atD_nat (j := 1)
@[simp] theorem atD_2 {ds : List D} : atD ds 2 = ds[2]? := atD_nat (j := 2)
@[simp] theorem ixN_nat {n j : Nat} : L2.ixN n (j : Int) = if j < n then some j else none := by
  unfold L2.ixN
  rw [if_pos (by omega)]
  by_cases h : j < n
  · rw [if_pos (by omega), if_pos h]; simp
  · rw [if_neg (by omega), if_neg h]
@[simp] theorem ixN_0 {n : Nat} : L2.ixN n 0 = if 0 < n then some 0 else none := ixN_nat (j := 0)
@[simp] theorem ixN_1 {n : Nat} : L2.ixN n 1 = if 1 < n then some 1 else none := ixN_nat (j := 1)
@[simp] theorem ixN_2 {n : Nat} : L2.ixN n 2 = if 2 < n then some 2 else none := ixN_nat (j := 2)
section
variable {i j : Int} {x y ds : List D} {a b : D}
@[simp] theorem o_add : op2D .add (.int i) (.int j) = some (false, .int (i + j)) := rfl
@[simp] theorem o_addL : op2D .add (.lst x) (.lst y) = if x.length + y.length ≤ lim then some (true, .lst (x ++ y)) else none := rfl
@[simp] theorem o_addT : op2D .add (.tup x) (.tup y) = if x.length + y.length ≤ lim then some (false, .tup (x ++ y)) else none := rfl
@[simp] theorem o_sub : op2D .sub (.int i) (.int j) = some (false, .int (i - j)) := rfl
@[simp] theorem o_mul : op2D .mul (.int i) (.int j) = if small64 i || small64 j then some (false, .int (i * j)) else none := rfl
@[simp] theorem o_mulL : op2D .mul (.lst x) (.int j) = if decide (-(2 ^ 62) ≤ j) && decide (j < 2 ^ 62) && decide (x.length * j.toNat ≤ lim) then some (true, .lst (repD x j)) else none := rfl
@[simp] theorem o_fdiv : op2D .fdiv (.int i) (.int j) = if decide (j ≠ 0) && decide (j.natAbs < 1073741824) then some (false, .int (i.fdiv j)) else none := rfl
@[simp] theorem o_mod : op2D .mod (.int i) (.int j) = if j ≠ 0 then some (false, .int (i.fmod j)) else none := rfl
@[simp] theorem o_pow : op2D .pow (.int i) (.int j) = if decide (0 ≤ j) && decide (j ≤ 1000) && decide (i.natAbs < 2 ^ 64) then some (false, .int (i ^ j.toNat)) else none := rfl
@[simp] theorem o_lt : op2D .lt (.int i) (.int j) = some (false, .bl (decide (i < j))) := rfl
@[simp] theorem o_le : op2D .le (.int i) (.int j) = some (false, .bl (decide (i ≤ j))) := rfl
@[simp] theorem o_gt : op2D .gt (.int i) (.int j) = some (false, .bl (decide (j < i))) := rfl
@[simp] theorem o_ge : op2D .ge (.int i) (.int j) = some (false, .bl (decide (j ≤ i))) := rfl
@[simp] theorem o_eq : op2D .eq (.int i) (.int j) = some (false, .bl (decide (i = j))) := by
  show some (false, D.bl (i == j)) = _
  congr 3
@[simp] theorem o_ne : op2D .ne (.int i) (.int j) = some (false, .bl (!decide (i = j))) := by
  show some (false, D.bl (!(i == j))) = _
  congr 4
@[simp] theorem o_neN : op2D .ne (.int i) .non = some (false, .bl true) := rfl
@[simp] theorem o_idxT : op2D .idx (.tup ds) (.int i) = (atD ds i).map fun d => (false, d) := rfl
@[simp] theorem o_idxL : op2D .idx (.lst ds) (.int i) = (atD ds i).map fun d => (false, d) := rfl
@[simp] theorem o_idxD {ks vs : List D} : op2D .idx (.dct ks vs) (.int i) = (getK ks vs i).map fun d => (false, d) := rfl
@[simp] theorem o_min2 : op2D .min2 (.int i) (.int j) = some (false, .int (if j < i then j else i)) := rfl
@[simp] theorem o_max2 : op2D .max2 (.int i) (.int j) = some (false, .int (if j > i then j else i)) := rfl
@[simp] theorem o_isN : op2D .is_ a .non = some (false, .bl (isNon a)) := rfl
@[simp] theorem o_isntB {p q : Bool} : op2D .isnt (.bl p) (.bl q) = some (false, .bl (!(q == p))) := rfl
@[simp] theorem o_lenT : op1D .len (.tup ds) = some (false, .int ds.length) := rfl
@[simp] theorem o_lenL : op1D .len (.lst ds) = some (false, .int ds.length) := rfl
@[simp] theorem o_lenD {ks vs : List D} : op1D .len (.dct ks vs) = some (false, .int ks.length) := rfl
@[simp] theorem o_neg : op1D .neg (.int i) = some (false, .int (-i)) := rfl
@[simp] theorem o_not {p : Bool} : op1D .not_ (.bl p) = some (false, .bl (!p)) := rfl
@[simp] theorem o_int : op1D .int_ (.int i) = some (false, .int i) := rfl
@[simp] theorem o_intB {p : Bool} : op1D .int_ (.bl p) = some (false, .int (if p then 1 else 0)) := rfl
@[simp] theorem o_listT : op1D .list (.tup ds) = some (true, .lst ds) := rfl
@[simp] theorem o_listL : op1D .list (.lst ds) = some (true, .lst ds) := rfl
@[simp] theorem o_tupT : op1D .tuple (.tup ds) = some (false, .tup ds) := rfl
@[simp] theorem o_tupL : op1D .tuple (.lst ds) = some (false, .tup ds) := rfl
@[simp] theorem o_revT : op1D .rev (.tup ds) = some (false, .tup ds.reverse) := rfl
@[simp] theorem o_revL : op1D .rev (.lst ds) = some (true, .lst ds.reverse) := rfl
@[simp] theorem t_bl {p : Bool} : truthD (.bl p) = some p := rfl
@[simp] theorem t_lst : truthD (.lst ds) = some (!ds.isEmpty) := rfl
@[simp] theorem items_t : itemsOf (.tup ds) = some ds := rfl
@[simp] theorem items_l : itemsOf (.lst ds) = some ds := rfl
@[simp] theorem o_in2 {k a b : Int} : op2D .inn (.int k) (.tup [.int a, .int b]) = some (false, .bl (decide (a = k) || decide (b = k))) := by
  show some (false, D.bl (false != ((a == k) || ((b == k) || false)))) = _
  simp
  rfl
end
@[simp] theorem intsOf_map : ∀ ns : List Int, intsOf (ns.map .int) = some ns
  | [] => rfl
  | n :: ns => by simp only [List.map_cons, intsOf, intsOf_map ns, Option.map_some]
@[simp] theorem pairsOf_map : ∀ ps : List (Int × Int), pairsOf (ps.map pD) = some ps
  | [] => rfl
  | p :: ps => by simp only [List.map_cons, pD, pairsOf, pairsOf_map ps, Option.map_some]
theorem intsOf_pairs : ∀ ps : List (Int × Int), ps ≠ [] → intsOf (ps.map pD) = none
  | [], h => (h rfl).elim
  | p :: ps, _ => rfl
@[simp] theorem o_sortI {ns : List Int} : op1D .sorted (.lst (ns.map .int)) = some (true, .lst ((srtI ns).map .int)) := by
  show (match intsOf (ns.map .int) with | some ns => oLst ((srtI ns).map .int) | none => _) = _
  rw [intsOf_map]; rfl
@[simp] theorem o_sortP {ps : List (Int × Int)} : op1D .sorted (.lst (ps.map pD)) = some (true, .lst ((srtP ps).map pD)) := by
  by_cases h : ps = []
  · subst h; rfl
  · show (match intsOf (ps.map pD) with | some ns => oLst ((srtI ns).map .int) | none => match pairsOf (ps.map pD) with
        | some ps => oLst ((srtP ps).map pD)
        | none => none) = _
    rw [intsOf_pairs ps h, pairsOf_map]; rfl
theorem eqOk_ints (k : Nat) : ∀ ns : List Int, (ns.map D.int).all (eqOk k) = true
  | [] => rfl
  | n :: ns => by
    simp only [List.map_cons, List.all_cons, eqOk_ints k ns, Bool.and_true]
    cases k <;> rfl
theorem eqDs_nil : ∀ ds : List D, eqDs ds [] = ds.isEmpty
  | [] => by simp [eqDs]
  | d :: ds => by simp [eqDs]
@[simp] theorem o_neE {ns : List Int} : op2D .ne (.lst (ns.map .int)) (.lst []) = some (false, .bl (!ns.isEmpty)) := by
  show (if eqOk 20 (.lst (ns.map .int)) && eqOk 20 (.lst []) then oBl (!eqD (.lst (ns.map .int)) (.lst [])) else _) = _
  have h1 : eqOk 20 (.lst (ns.map .int)) = true := eqOk_ints 19 ns
  have h2 : eqOk 20 (.lst []) = true := rfl
  rw [h1, h2]
  simp only [Bool.and_self, if_true, oBl]
  rw [show eqD (.lst (ns.map .int)) (.lst []) = eqDs (ns.map .int) [] by simp [eqD], eqDs_nil]
  cases ns <;> rfl
@[simp] theorem o_ne00 : op2D .ne (.lst []) (.lst []) = some (false, .bl false) := rfl
/-! keys -/
@[simp] theorem hasK_map {x : Int} : ∀ ks : List Int, hasK (ks.map .int) x = decide (x ∈ ks)
  | [] => by simp [hasK]
  | k :: ks => by
    simp only [List.map_cons, hasK, hasK_map ks, List.mem_cons]
    by_cases h : k = x
    · subst h; simp
    · have : ¬ x = k := fun e => h e.symm
      simp [h, this]
@[simp] theorem o_inD {ks : List Int} {vs : List D} {x : Int} : op2D .inn (.int x) (.dct (ks.map .int) vs) = some (false, .bl (decide (x ∈ ks))) := by
  show some (false, D.bl (false != hasK (ks.map .int) x)) = _
  rw [hasK_map]; simp
@[simp] theorem o_ninD {ks : List Int} {vs : List D} {x : Int} : op2D .nin (.int x) (.dct (ks.map .int) vs) = some (false, .bl (!decide (x ∈ ks))) := by
  show some (false, D.bl (true != hasK (ks.map .int) x)) = _
  rw [hasK_map]; simp
theorem putK_new {ks : List Int} {vs : List D} {x : Int} {d : D} (h : x ∉ ks) : putK (ks.map .int) vs x d = ((ks ++ [x]).map .int, vs ++ [d]) := by
  unfold putK
  rw [hasK_map, if_neg (by simpa using h)]
  simp
/-- the value at a key of a row of pairs -/
def val : List (Int × Int) → Int → Option Int
  | [], _ => none
  | (k, w) :: r, x => if k = x then some w else val r x
theorem getK_map {x : Int} : ∀ fs : List (Int × Int), getK ((fs.map (·.1)).map .int) ((fs.map (·.2)).map .int) x = (val fs x).map .int
  | [] => rfl
  | (k, w) :: r => by
    simp only [List.map_cons, getK, val]
    by_cases h : k = x
    · simp [h]
    · simp only [if_neg h]; exact getK_map r
/-! loops -/
theorem loopC_fm {f : D → Sb.Env → R (Option D)} {e : Sb.Env} (g : D → Option D) : ∀ {xs : List D}, (∀ x ∈ xs, f x e = .ok (g x) e) → loopC f xs e = .ok (xs.filterMap g) e
  | [], _ => rfl
  | x :: xs, h => by
    rw [loopC, h x List.mem_cons_self, bnd_ok, loopC_fm g (fun y hy => h y (List.mem_cons_of_mem _ hy)), bnd_ok, List.filterMap_cons]
    cases g x <;> rfl
theorem for_fold {σ : Type} {f : D → Sb.Env → RS} (Rel : σ → Sb.Env → Prop) (g : σ → D → σ) : ∀ {xs : List D} {s : σ} {e : Sb.Env}, (∀ s x e, x ∈ xs → Rel s e → ∃ e', f x e = .nxt e' ∧ Rel (g s x) e') → Rel s e → ∃ e', loopF f xs e = .nxt e' ∧ Rel (xs.foldl g s) e'
  | [], s, e, _, h => ⟨e, rfl, h⟩
  | x :: xs, s, e, k, h => by
    obtain ⟨e1, q1, h1⟩ := k s x e List.mem_cons_self h
    obtain ⟨e2, q2, h2⟩ := for_fold Rel g (xs := xs) (fun s y e hy => k s y e (List.mem_cons_of_mem _ hy)) h1
    exact ⟨e2, by rw [loopF, q1]; exact q2, h2⟩
def run {σ : Type} (step : σ → Option σ) : Nat → σ → σ
  | 0, s => s
  | k + 1, s => match step s with
    | none => s
    | some s' => run step k s'
theorem whl_run {σ : Type} {c : Sb.Env → R Bool} {b : Sb.Env → RS} (Rel : σ → Sb.Env → Prop) (step : σ → Option σ) (m : σ → Nat)
    (h0 : ∀ s e, Rel s e → step s = none → c e = .ok false e)
    (h1 : ∀ s e s', Rel s e → step s = some s' → m s' < m s ∧ c e = .ok true e ∧ ∃ e2, b e = .nxt e2 ∧ Rel s' e2) :
    ∀ (wf k : Nat) (s : σ) (e : Sb.Env), Rel s e → m s ≤ k → m s < wf → ∃ e', loopW c b wf e = .nxt e' ∧ Rel (run step k s) e' ∧ step (run step k s) = none
  | 0, _, _, _, _, _, h => by omega
  | wf + 1, k, s, e, r, hk, hw => by
    cases q : step s with
    | none =>
      have q1 := h0 s e r q
      have e0 : run step k s = s := by
        cases k with
        | zero => rfl
        | succ k => rw [run, q]
      refine ⟨e, by rw [loopW, q1]; rfl, ?_⟩
      rw [e0]
      exact ⟨r, q⟩
    | some s' =>
      obtain ⟨hm, q1, e2, q2, r2⟩ := h1 s e s' r q
      cases k with
      | zero => omega
      | succ k =>
        obtain ⟨e3, q3, r3⟩ := whl_run Rel step m h0 h1 wf k s' e2 r2 (by omega) (by omega)
        refine ⟨e3, ?_, ?_⟩
        · rw [loopW, q1]
          show (match b e with | .nxt e2 => loopW c b wf e2 | .cnt e2 => loopW c b wf e2 | r => r) = _
          rw [q2]; exact q3
        · rw [run, q]; exact r3
/-! sorting -/
theorem insI_comm (x y : Int) : ∀ l : List Int, insI x (insI y l) = insI y (insI x l)
  | [] => by
    simp only [insI]
    by_cases h : x ≤ y
    · by_cases h2 : y ≤ x
      · have : x = y := by omega
        subst this; rfl
      · rw [if_pos h, if_neg h2]
    · rw [if_neg h, if_pos (by omega)]
  | z :: l => by
    have ih := insI_comm x y l
    simp only [insI]
    by_cases h1 : y ≤ z <;> by_cases h2 : x ≤ z <;> simp only [h1, h2, if_true, if_false, insI]
    · by_cases h3 : x ≤ y
      · by_cases h4 : y ≤ x
        · have : x = y := by omega
          subst this; rfl
        · simp [h3, h4, h1]
      · have h4 : y ≤ x := by omega
        simp [h3, h4, h2]
    · have h3 : ¬ x ≤ y := by omega
      simp [h3]
    · have h4 : ¬ y ≤ x := by omega
      simp [h4]
    · rw [ih]
theorem srtI_perm {l l' : List Int} (h : l.Perm l') : srtI l = srtI l' := by
  induction h with
  | nil => rfl
  | cons x _ ih => simp only [srtI, ih]
  | swap x y l => simp only [srtI]; exact insI_comm _ _ _
  | trans _ _ a b => rw [a, b]
theorem insI_mem {x y : Int} : ∀ {l : List Int}, y ∈ insI x l ↔ y = x ∨ y ∈ l
  | [] => by simp [insI]
  | z :: l => by
    simp only [insI]
    by_cases h : x ≤ z
    · simp [h]
    · simp only [h, if_false, List.mem_cons, insI_mem (l := l)]
      constructor
      · rintro (a | a | a) <;> simp [a]
      · rintro (a | a | a) <;> simp [a]
@[simp] theorem srtI_mem {y : Int} : ∀ {l : List Int}, y ∈ srtI l ↔ y ∈ l
  | [] => by simp [srtI]
  | x :: l => by simp [srtI, insI_mem, srtI_mem (l := l)]
theorem insI_len (x : Int) : ∀ l : List Int, (insI x l).length = l.length + 1
  | [] => rfl
  | z :: l => by
    simp only [insI]
    by_cases h : x ≤ z
    · simp [h]
    · simp [h, insI_len x l]
@[simp] theorem srtI_len : ∀ l : List Int, (srtI l).length = l.length
  | [] => rfl
  | x :: l => by simp [srtI, insI_len, srtI_len l]
theorem insI_sorted {x : Int} : ∀ {l : List Int}, l.Pairwise (· ≤ ·) → (insI x l).Pairwise (· ≤ ·)
  | [], _ => by simp [insI]
  | z :: l, h => by
    obtain ⟨h1, h2⟩ := List.pairwise_cons.mp h
    simp only [insI]
    by_cases hx : x ≤ z
    · simp only [hx, if_true]
      refine List.pairwise_cons.mpr ⟨fun w hw => ?_, h⟩
      rcases List.mem_cons.mp hw with e | e
      · omega
      · have := h1 w e; omega
    · simp only [hx, if_false]
      refine List.pairwise_cons.mpr ⟨fun w hw => ?_, insI_sorted h2⟩
      rcases insI_mem.mp hw with e | e
      · omega
      · exact h1 w e
theorem srtI_sorted : ∀ l : List Int, (srtI l).Pairwise (· ≤ ·)
  | [] => List.Pairwise.nil
  | x :: l => insI_sorted (srtI_sorted l)
end M

set_option Elab.async false
set_option linter.all false
set_option maxRecDepth 100000
/-! Ties, neighbours, what is reached. -/
namespace M
open PySem Sb
abbrev Ties := List (Int × Int)
def near (ts : Ties) (b : Int) : List Int := srtI (ts.filterMap fun p => if p.1 = b ∨ p.2 = b then some (p.1 + p.2 - b) else none)
theorem filterMap_pD {g : D → Option D} {f : Int × Int → Option Int} {ts : Ties} (h : ∀ p ∈ ts, g (pD p) = (f p).map .int) : (ts.map pD).filterMap g = (ts.filterMap f).map .int := by
  induction ts with
  | nil => rfl
  | cons p ts ih =>
    rw [List.map_cons, List.filterMap_cons, List.filterMap_cons, h p List.mem_cons_self, ih fun q hq => h q (List.mem_cons_of_mem _ hq)]
    cases f p <;> rfl
section
variable {T : Nat → Option Def} {sub : Nat → Nat → Bool} {wf n : Nat}
theorem e_near (hT : Ext T) {d : D} {ts : Ties} {b : Int} (hd : itemsOf d = some (ts.map pD)) (hl : ts.length ≤ lim) : callD T sub wf (n + 1) 2 [v d, v (.int b)] = .ok true (.lst ((near ts b).map .int)) [v d, v (.int b)] := by
  rw [call_eq (hT 2 _ rfl) rfl]
  simp only [B.b2, ev_ss1, ev_ret, ev_op1, ev_comp, ev_seq, ev_var, frzS_eq, List.cons_append, List.nil_append, List.getElem?_cons_zero, bnd_ok, emb_shr, Option.bind_some, hd, optE_some, List.length_map, hl, if_true]
  rw [loopC_fm (fun x => match x with | .tup [.int p, .int q] => if p = b ∨ q = b then some (.int (p + q - b)) else none | _ => none)]
  · rw [filterMap_pD (f := fun p => if p.1 = b ∨ p.2 = b then some (p.1 + p.2 - b) else none)]
    · simp [near]
    · intro p _
      simp only [pD]
      split <;> rfl
  · intro x hx
    obtain ⟨p, hp, rfl⟩ := List.mem_map.mp hx
    simp only [pD]
    by_cases h : p.1 = b <;> by_cases h2 : p.2 = b <;> simp [cturn, h, h2]
theorem e_near2 (hT : Ext T) {d : D} {ts : Ties} {b : Int} (hd : itemsOf d = some (ts.map pD)) (hl : 2 * ts.length ≤ lim) (hne : ∀ p ∈ ts, p.1 ≠ p.2) : callD T sub wf (n + 1) 17 [v d, v (.int b)] = .ok true (.lst ((near ts b).map .int)) [v d, v (.int b)] := by
  have h0 : ts.length ≤ lim := by omega
  rw [call_eq (hT 17 _ rfl) rfl]
  simp only [B.b17, ev_ss1, ev_ret, ev_op1, ev_op2, ev_comp, ev_seq, ev_var, frzS_eq, List.cons_append, List.nil_append, List.getElem?_cons_zero, bnd_ok, emb_shr, Option.bind_some, hd, optE_some, List.length_map, h0, if_true]
  rw [loopC_fm (fun x => match x with | .tup [.int p, .int q] => if q = b then some (.int p) else none | _ => none)]
  · rw [filterMap_pD (f := fun p => if p.2 = b then some p.1 else none)]
    · simp only [bnd_ok, calm_ok, bnd_ok, List.getElem?_cons_zero, emb_shr, Option.bind_some, hd, optE_some, List.length_map, h0, if_true]
      rw [loopC_fm (fun x => match x with | .tup [.int p, .int q] => if p = b then some (.int q) else none | _ => none)]
      · rw [filterMap_pD (f := fun p => if p.1 = b then some p.2 else none)]
        · have l1 := List.length_filterMap_le (fun p : Int × Int => if p.2 = b then some p.1 else none) ts
          have l2 := List.length_filterMap_le (fun p : Int × Int => if p.1 = b then some p.2 else none) ts
          have l3 : (ts.filterMap fun p : Int × Int => if p.2 = b then some p.1 else none).length + (ts.filterMap fun p : Int × Int => if p.1 = b then some p.2 else none).length ≤ lim := by omega
          simp only [bnd_ok, calm_ok, ap2_eq, stl_fr, o_addL, List.length_map, l3, if_true, kFD_some, ap1_eq, ← List.map_append, o_sortI, toS_ok, ev_ss0]
          have e : srtI ((ts.filterMap fun p : Int × Int => if p.2 = b then some p.1 else none) ++ (ts.filterMap fun p : Int × Int => if p.1 = b then some p.2 else none)) = near ts b := by
            refine srtI_perm ?_
            clear l1 l2 l3 hl h0 hd
            induction ts with
            | nil => exact .nil
            | cons p ts ih =>
              have ih := ih fun q hq => hne q (List.mem_cons_of_mem _ hq)
              have hp := hne p List.mem_cons_self
              simp only [List.filterMap_cons]
              by_cases h1 : p.2 = b
              · have h2 : ¬ p.1 = b := by omega
                have h3 : p.1 + p.2 - b = p.1 := by omega
                simp only [h1, h2, if_true, if_false, or_true, List.cons_append]
                rw [show p.1 + b - b = p.1 by omega]
                exact ih.cons _
              · by_cases h2 : p.1 = b
                · simp only [h1, h2, if_true, if_false, true_or]
                  rw [show b + p.2 - b = p.2 by omega]
                  exact List.perm_middle.trans (ih.cons _)
                · simp only [h1, h2, if_false, or_self]
                  exact ih
          rw [e]
          simp
        · intro p _
          simp only [pD]
          split <;> rfl
      · intro x hx
        obtain ⟨p, hp, rfl⟩ := List.mem_map.mp hx
        simp only [pD]
        by_cases h : p.1 = b <;> simp [cturn, h]
    · intro p _
      simp only [pD]
      split <;> rfl
  · intro x hx
    obtain ⟨p, hp, rfl⟩ := List.mem_map.mp hx
    simp only [pD]
    by_cases h : p.2 = b <;> simp [cturn, h]
theorem near_mem {ts : Ties} {b x : Int} : x ∈ near ts b ↔ ∃ p ∈ ts, (p.1 = b ∧ x = p.2) ∨ (p.2 = b ∧ x = p.1) := by
  unfold near
  simp only [srtI_mem, List.mem_filterMap]
  constructor
  · rintro ⟨p, hp, h⟩
    split at h
    · rename_i hc
      have h := Option.some.inj h
      refine ⟨p, hp, ?_⟩
      rcases hc with z | z
      · exact .inl ⟨z, by omega⟩
      · exact .inr ⟨z, by omega⟩
    · cases h
  · rintro ⟨p, hp, ⟨h1, h2⟩ | ⟨h1, h2⟩⟩
    · exact ⟨p, hp, by rw [if_pos (.inl h1)]; congr 1; omega⟩
    · exact ⟨p, hp, by rw [if_pos (.inr h1)]; congr 1; omega⟩
theorem near_symm {ts : Ties} {a b : Int} : a ∈ near ts b ↔ b ∈ near ts a := by
  rw [near_mem, near_mem]
  constructor <;> rintro ⟨p, hp, ⟨h1, h2⟩ | ⟨h1, h2⟩⟩
  · exact ⟨p, hp, .inr ⟨h2.symm, h1.symm⟩⟩
  · exact ⟨p, hp, .inl ⟨h2.symm, h1.symm⟩⟩
  · exact ⟨p, hp, .inr ⟨h2.symm, h1.symm⟩⟩
  · exact ⟨p, hp, .inl ⟨h2.symm, h1.symm⟩⟩
/-! ### what is reached -/
abbrev St2 := List Int × List Int
def push (bar : Option Int) (s : St2) (o : Int) : St2 := if o ∈ s.1 ∨ bar = some o then s else (s.1 ++ [o], s.2 ++ [o])
def dstep (ts : Ties) (bar : Option Int) (s : St2) : Option St2 := match s.2.getLast? with
  | none => none
  | some w => some ((near ts w).foldl (push bar) (s.1, s.2.dropLast))
def barD : Option Int → D
  | none => .non
  | some k => .int k
def oks (ks : List Int) : D := .dct (ks.map .int) (ks.map fun _ => .bl true)
/-- what is still to be come to -/
def lft (U : List Int) (s : St2) : Nat := (U.filter fun x => decide (x ∉ s.1)).length + s.2.length
theorem filter_less {U l : List Int} {o : Int} (h1 : o ∈ U) (h2 : o ∉ l) : (U.filter fun x => decide (x ∉ l ++ [o])).length + 1 ≤ (U.filter fun x => decide (x ∉ l)).length := by
  induction U with
  | nil => cases h1
  | cons u U ih =>
    have mono : ∀ V : List Int, (V.filter fun x => decide (x ∉ l ++ [o])).length ≤ (V.filter fun x => decide (x ∉ l)).length := fun V => by
      induction V with
      | nil => simp
      | cons y V ih =>
        by_cases q1 : y ∈ l
        · simp [List.filter_cons, q1, ih] at ih ⊢; exact ih
        · by_cases q2 : y = o
          · subst q2; simp [List.filter_cons, q1] at ih ⊢; omega
          · simp [List.filter_cons, q1, q2] at ih ⊢; exact ih
    by_cases e : u = o
    · subst e
      have := mono U
      simp [List.filter_cons, h2] at this ⊢
      exact this
    · have h3 : o ∈ U := by
        rcases List.mem_cons.mp h1 with z | z
        · exact (e z.symm).elim
        · exact z
      have ih := ih h3
      by_cases q1 : u ∈ l
      · simp [List.filter_cons, q1] at ih ⊢; exact ih
      · simp [List.filter_cons, q1, e] at ih ⊢; omega
theorem push_lft {U : List Int} {bar : Option Int} {s : St2} {o : Int} (h : o ∈ U) : lft U (push bar s o) ≤ lft U s := by
  unfold push
  split
  · exact Nat.le_refl _
  · rename_i hc
    have h2 : o ∉ s.1 := fun z => hc (.inl z)
    have := filter_less h h2
    simp only [lft, List.length_append, List.length_cons, List.length_nil]
    omega
theorem pushes_lft {U : List Int} {bar : Option Int} : ∀ {os : List Int} {s : St2}, (∀ o ∈ os, o ∈ U) → lft U (os.foldl (push bar) s) ≤ lft U s
  | [], s, _ => Nat.le_refl _
  | o :: os, s, h => Nat.le_trans (pushes_lft (os := os) fun x hx => h x (List.mem_cons_of_mem _ hx)) (push_lft (h o List.mem_cons_self))
def ends (ts : Ties) : List Int := ts.map (·.1) ++ ts.map (·.2)
theorem near_ends {ts : Ties} {b x : Int} (h : x ∈ near ts b) : x ∈ ends ts := by
  obtain ⟨p, hp, ⟨_, e⟩ | ⟨_, e⟩⟩ := near_mem.mp h <;> subst e <;> unfold ends <;> simp only [List.mem_append, List.mem_map]
  · exact .inr ⟨p, hp, rfl⟩
  · exact .inl ⟨p, hp, rfl⟩
theorem dstep_less {ts : Ties} {bar : Option Int} {s s' : St2} (h : dstep ts bar s = some s') : lft (ends ts) s' < lft (ends ts) s := by
  unfold dstep at h
  cases q : s.2.getLast? with
  | none => rw [q] at h; cases h
  | some w =>
    rw [q] at h
    have h := Option.some.inj h
    subst h
    have h1 := pushes_lft (U := ends ts) (bar := bar) (os := near ts w) (s := (s.1, s.2.dropLast)) fun o ho => near_ends ho
    have h2 : s.2 ≠ [] := fun z => by rw [z] at q; cases q
    have h3 : s.2.length ≠ 0 := fun z => h2 (List.length_eq_zero_iff.mp z)
    refine Nat.lt_of_le_of_lt h1 ?_
    simp only [lft, List.length_dropLast]
    omega
def tot (U : List Int) (s : St2) : Nat := s.1.length + (U.filter fun x => decide (x ∉ s.1)).length
theorem push_tot {U : List Int} {bar : Option Int} {s : St2} {o : Int} (h : o ∈ U) : tot U (push bar s o) ≤ tot U s := by
  unfold push
  split
  · exact Nat.le_refl _
  · rename_i hc
    have h2 : o ∉ s.1 := fun z => hc (.inl z)
    have := filter_less h h2
    simp only [tot, List.length_append, List.length_cons, List.length_nil]
    omega
structure Rel3 (ts : Ties) (K : Nat) (d b : D) (bar : Option Int) (s : St2) (e : Sb.Env) : Prop where
  env : ∃ t : Slot, t.pin = false ∧ e = [v d, v b, v (barD bar), .own false (oks s.1), .own false (.lst (s.2.map .int)), t]
  tot : tot (ends ts) s ≤ K
  lft : lft (ends ts) s ≤ K
theorem ne_bar {o : Int} {bar : Option Int} : op2D .ne (.int o) (barD bar) = some (false, .bl (!decide (bar = some o))) := by
  cases bar with
  | none => simp [barD]
  | some k =>
    simp only [barD, o_ne, Option.some.injEq, eq_comm]
theorem map_true (ks : List Int) (o : Int) : (ks.map fun _ => D.bl true) ++ [.bl true] = (ks ++ [o]).map fun _ => D.bl true := by simp
theorem e_push {C : Cal} {ts : Ties} {K : Nat} {d b : D} {bar : Option Int} {s : St2} {e : Sb.Env} {o : Int} (hK : K < lim) (ho : o ∈ ends ts) (r : Rel3 ts K d b bar s e) {body : List IS}
    (hb : body = [.ifs (.and_ (.val (.op2 .nin (.pk 5) (.pk 3))) (.val (.op2 .ne (.pk 5) (.pk 2)))) [.seti 3 (.pk 5) (.cst (.bl true)), .app 4 (.var 5)] []] ∨
      body = [.ifs (.and_ (.val (.op2 .ne (.pk 5) (.pk 2))) (.val (.op2 .nin (.pk 5) (.pk 3)))) [.seti 3 (.pk 5) (.cst (.bl true)), .app 4 (.var 5)] []]) :
    ∃ e', turn C sub wf (.nm 5) body (.int o) e = .nxt e' ∧ Rel3 ts K d b bar (push bar s o) e' := by
  obtain ⟨⟨t, ht, rfl⟩, h1, h2⟩ := r
  have w1 : s.1.length < lim := by unfold M.tot at h1; omega
  have w2 : s.2.length < lim := by unfold M.lft at h2; omega
  by_cases hc : o ∈ s.1 ∨ bar = some o
  · have e1 : push bar s o = s := if_pos hc
    refine ⟨[v d, v b, v (barD bar), .own false (oks s.1), .own false (.lst (s.2.map .int)), v (.int o)], ?_, ?_⟩
    · rcases hb with rfl | rfl <;> rcases hc with hc | hc <;> simp [turn, ht, oks, ne_bar, hc]
      all_goals (by_cases q : o ∈ s.1 <;> by_cases q2 : bar = some o <;> simp [q, q2])
    · rw [e1]; exact ⟨⟨_, rfl, rfl⟩, h1, h2⟩
  · have e1 : push bar s o = (s.1 ++ [o], s.2 ++ [o]) := if_neg hc
    have n1 : o ∉ s.1 := fun z => hc (.inl z)
    have n2 : ¬ bar = some o := fun z => hc (.inr z)
    refine ⟨[v d, v b, v (barD bar), .own false (oks (s.1 ++ [o])), .own false (.lst ((s.2 ++ [o]).map .int)), v (.int o)], ?_, ?_⟩
    · have p1 := putK_new (vs := s.1.map fun _ => D.bl true) (d := .bl true) n1
      rcases hb with rfl | rfl <;> simp [turn, ht, oks, ne_bar, n1, n2, p1, w1, w2]
    · have q1 := push_tot (bar := bar) (s := s) ho
      have q2 := push_lft (bar := bar) (s := s) ho
      rw [e1] at q1 q2 ⊢
      exact ⟨⟨_, rfl, rfl⟩, Nat.le_trans q1 h1, Nat.le_trans q2 h2⟩
/-- all that is come to, in the order in which it is found -/
def reach (ts : Ties) (b : Int) (bar : Option Int) : List Int := (run (dstep ts bar) (2 * ts.length + 2) ([b], [b])).1
theorem dstep_none {ts : Ties} {bar : Option Int} {s : St2} (h : dstep ts bar s = none) : s.2 = [] := by
  unfold dstep at h
  cases q : s.2.getLast? with
  | none => exact List.getLast?_eq_none_iff.mp q
  | some w => rw [q] at h; cases h
theorem getLast_map {w : Int} {l : List Int} (h : l.getLast? = some w) : (l.map D.int).getLast? = some (.int w) := by
  rw [List.getLast?_map, h]; rfl
theorem dropLast_map {l : List Int} : (l.map D.int).dropLast = l.dropLast.map D.int := by
  rw [List.map_dropLast]
theorem lft0 (ts : Ties) (b : Int) : lft (ends ts) ([b], [b]) ≤ 2 * ts.length + 1 ∧ tot (ends ts) ([b], [b]) ≤ 2 * ts.length + 1 := by
  have := List.length_filter_le (fun x => decide (x ∉ [b])) (ends ts)
  have h : (ends ts).length = 2 * ts.length := by unfold ends; simp; omega
  unfold lft tot
  simp only [List.length_cons, List.length_nil]
  omega
theorem e_reached (hT : Ext T) {d : D} {ts : Ties} {b : Int} {bar : Option Int} (hd : itemsOf d = some (ts.map pD)) (hl : 2 * ts.length + 2 < wf) (hw : wf ≤ lim) :
    callD T sub wf (n + 2) 3 [v d, v (.int b), v (barD bar)] = .ok true (oks (reach ts b bar)) [v d, v (.int b), v (barD bar)] := by
  rw [call_eq (hT 3 _ rfl) rfl]
  have hts : ts.length ≤ lim := by omega
  have start : Rel3 ts (2 * ts.length + 1) d (.int b) bar ([b], [b]) [v d, v (.int b), v (barD bar), .own false (oks [b]), .own false (.lst [.int b]), .no] := ⟨⟨.no, rfl, rfl⟩, (lft0 ts b).2, (lft0 ts b).1⟩
  obtain ⟨e', q1, ⟨⟨t, ht, q2⟩, _, _⟩, q3⟩ := whl_run (c := evT (callD T sub wf (n + 1)) sub (.val (.op2 .ne (.pk 4) (.lst []))))
    (b := evSs (callD T sub wf (n + 1)) sub wf [.for_ (.seq (.call 2 [.e (.var 0), .e (.pop 4)])) (.nm 5) [.ifs (.and_ (.val (.op2 .nin (.pk 5) (.pk 3))) (.val (.op2 .ne (.pk 5) (.pk 2)))) [.seti 3 (.pk 5) (.cst (.bl true)), .app 4 (.var 5)] []]])
    (Rel3 ts (2 * ts.length + 1) d (.int b) bar) (dstep ts bar) (lft (ends ts)) (fun s e r hs => by
      have h2 := dstep_none hs
      obtain ⟨⟨t, ht, rfl⟩, r1, r2⟩ := r
      simp [h2]) (fun s e s' r hs => by
      refine ⟨dstep_less hs, ?_⟩
      unfold dstep at hs
      cases q : s.2.getLast? with
      | none => rw [q] at hs; cases hs
      | some w =>
        rw [q] at hs
        have hs := Option.some.inj hs
        subst hs
        obtain ⟨⟨t, ht, rfl⟩, r1, r2⟩ := r
        have ne : s.2.isEmpty = false := by
          cases h : s.2 with
          | nil => rw [h] at q; cases q
          | cons _ _ => rfl
        have mid : Rel3 ts (2 * ts.length + 1) d (.int b) bar (s.1, s.2.dropLast) [v d, v (.int b), v (barD bar), .own false (oks s.1), .own false (.lst (s.2.dropLast.map .int)), t] := by
          refine ⟨⟨t, ht, rfl⟩, r1, ?_⟩
          unfold M.lft at r2 ⊢
          simp only [List.length_dropLast]
          omega
        obtain ⟨e2, z1, z2⟩ := for_fold (f := turn (callD T sub wf (n + 1)) sub wf (.nm 5) [.ifs (.and_ (.val (.op2 .nin (.pk 5) (.pk 3))) (.val (.op2 .ne (.pk 5) (.pk 2)))) [.seti 3 (.pk 5) (.cst (.bl true)), .app 4 (.var 5)] []]) (Rel3 ts (2 * ts.length + 1) d (.int b) bar) (fun s x => match x with | .int o => push bar s o | _ => s) (xs := (near ts w).map .int) (fun s x e hx r => by
            obtain ⟨o, ho, rfl⟩ := List.mem_map.mp hx
            exact e_push (by omega) (near_ends ho) r (.inl rfl)) mid
        rw [List.foldl_map] at z2
        refine ⟨?_, e2, ?_, z2⟩
        · simp [ne]
        · have c2 := e_near (sub := sub) (wf := wf) (n := n) hT (b := w) hd hts
          have c3 : evI (callD T sub wf (n + 1)) sub (.seq (.call 2 [.e (.var 0), .e (.pop 4)])) [v d, v (.int b), v (barD bar), .own false (oks s.1), .own false (.lst (s.2.map .int)), t] =
              .ok ((near ts w).map .int) [v d, v (.int b), v (barD bar), .own false (oks s.1), .own false (.lst (s.2.dropLast.map .int)), t] := by
            simp [q, dropLast_map, c2, -List.map_dropLast]
          rw [ev_ss1, ev_for, c3, toS_ok, z1, nxt_bnd, ev_ss0]) wf (2 * ts.length + 2) _ _ start (by have := (lft0 ts b).1; omega) (by have := (lft0 ts b).1; omega)
  have e0 : evS (callD T sub wf (n + 1)) sub wf (.par [3, 4] [.d1 (.var 1) (.cst (.bl true)), .lst [.var 1]]) [v d, v (.int b), v (barD bar), .no, .no, .no] = .nxt [v d, v (.int b), v (barD bar), .own false (oks [b]), .own false (.lst [.int b]), .no] := by
    simp [oks]
  simp only [B.b3, List.cons_append, List.nil_append, List.replicate, ev_ss1, e0, nxt_bnd, ev_whl, q1, q2]
  simp [reach]
theorem e_reached2 (hT : Ext T) {d : D} {ts : Ties} {b : Int} {bar : Option Int} (hd : itemsOf d = some (ts.map pD)) (hl : 2 * ts.length + 2 < wf) (hw : wf ≤ lim) (hne : ∀ p ∈ ts, p.1 ≠ p.2) :
    callD T sub wf (n + 2) 18 [v d, v (.int b), v (barD bar)] = .ok true (oks (reach ts b bar)) [v d, v (.int b), v (barD bar)] := by
  rw [call_eq (hT 18 _ rfl) rfl]
  have hts : ts.length ≤ lim := by omega
  have start : Rel3 ts (2 * ts.length + 1) d (.int b) bar ([b], [b]) [v d, v (.int b), v (barD bar), .own false (oks [b]), .own false (.lst [.int b]), .no] := ⟨⟨.no, rfl, rfl⟩, (lft0 ts b).2, (lft0 ts b).1⟩
  obtain ⟨e', q1, ⟨⟨t, ht, q2⟩, _, _⟩, q3⟩ := whl_run (c := evT (callD T sub wf (n + 1)) sub (.val (.op2 .ne (.pk 4) (.lst []))))
    (b := evSs (callD T sub wf (n + 1)) sub wf [.for_ (.seq (.call 17 [.e (.var 0), .e (.pop 4)])) (.nm 5) [.ifs (.and_ (.val (.op2 .ne (.pk 5) (.pk 2))) (.val (.op2 .nin (.pk 5) (.pk 3)))) [.seti 3 (.pk 5) (.cst (.bl true)), .app 4 (.var 5)] []]])
    (Rel3 ts (2 * ts.length + 1) d (.int b) bar) (dstep ts bar) (lft (ends ts)) (fun s e r hs => by
      have h2 := dstep_none hs
      obtain ⟨⟨t, ht, rfl⟩, r1, r2⟩ := r
      simp [h2]) (fun s e s' r hs => by
      refine ⟨dstep_less hs, ?_⟩
      unfold dstep at hs
      cases q : s.2.getLast? with
      | none => rw [q] at hs; cases hs
      | some w =>
        rw [q] at hs
        have hs := Option.some.inj hs
        subst hs
        obtain ⟨⟨t, ht, rfl⟩, r1, r2⟩ := r
        have ne : s.2.isEmpty = false := by
          cases h : s.2 with
          | nil => rw [h] at q; cases q
          | cons _ _ => rfl
        have mid : Rel3 ts (2 * ts.length + 1) d (.int b) bar (s.1, s.2.dropLast) [v d, v (.int b), v (barD bar), .own false (oks s.1), .own false (.lst (s.2.dropLast.map .int)), t] := by
          refine ⟨⟨t, ht, rfl⟩, r1, ?_⟩
          unfold M.lft at r2 ⊢
          simp only [List.length_dropLast]
          omega
        obtain ⟨e2, z1, z2⟩ := for_fold (f := turn (callD T sub wf (n + 1)) sub wf (.nm 5) [.ifs (.and_ (.val (.op2 .ne (.pk 5) (.pk 2))) (.val (.op2 .nin (.pk 5) (.pk 3)))) [.seti 3 (.pk 5) (.cst (.bl true)), .app 4 (.var 5)] []]) (Rel3 ts (2 * ts.length + 1) d (.int b) bar) (fun s x => match x with | .int o => push bar s o | _ => s) (xs := (near ts w).map .int) (fun s x e hx r => by
            obtain ⟨o, ho, rfl⟩ := List.mem_map.mp hx
            exact e_push (by omega) (near_ends ho) r (.inr rfl)) mid
        rw [List.foldl_map] at z2
        refine ⟨?_, e2, ?_, z2⟩
        · simp [ne]
        · have c2 := e_near2 (sub := sub) (wf := wf) (n := n) hT (b := w) hd (by omega) hne
          have c3 : evI (callD T sub wf (n + 1)) sub (.seq (.call 17 [.e (.var 0), .e (.pop 4)])) [v d, v (.int b), v (barD bar), .own false (oks s.1), .own false (.lst (s.2.map .int)), t] =
              .ok ((near ts w).map .int) [v d, v (.int b), v (barD bar), .own false (oks s.1), .own false (.lst (s.2.dropLast.map .int)), t] := by
            simp [q, dropLast_map, c2, -List.map_dropLast]
          rw [ev_ss1, ev_for, c3, toS_ok, z1, nxt_bnd, ev_ss0]) wf (2 * ts.length + 2) _ _ start (by have := (lft0 ts b).1; omega) (by have := (lft0 ts b).1; omega)
  have e0 : evS (callD T sub wf (n + 1)) sub wf (.par [3, 4] [.d1 (.var 1) (.cst (.bl true)), .lst [.var 1]]) [v d, v (.int b), v (barD bar), .no, .no, .no] = .nxt [v d, v (.int b), v (barD bar), .own false (oks [b]), .own false (.lst [.int b]), .no] := by
    simp [oks]
  simp only [B.b18, List.cons_append, List.nil_append, List.replicate, ev_ss1, e0, nxt_bnd, ev_whl, q1, q2]
  simp [reach]
end
end M

set_option Elab.async false
set_option linter.all false
set_option maxRecDepth 100000
/-! Values that are webs. -/
namespace M
open PySem Sb
def isTie (n : Int) : D → Bool
  | .tup [.int a, .int b] => decide (0 ≤ a) && decide (a ≤ n - 1) && decide (a + 1 ≤ b) && decide (b ≤ n - 1)
  | _ => false
def okTie (n : Int) (p : Int × Int) : Bool := decide (0 ≤ p.1) && decide (p.1 ≤ n - 1) && decide (p.1 + 1 ≤ p.2) && decide (p.2 ≤ n - 1)
theorem isTie_pD {n : Int} {p : Int × Int} : isTie n (pD p) = okTie n p := rfl
theorem shows_plain : ∀ {k : Nat} {d : D}, shows k d = true → plainD d = true := fun {k d} h => by
  cases d with
  | obj _ _ => cases k <;> cases h
  | scr _ => cases k <;> cases h
  | _ => rfl
theorem shows_tup {k : Nat} {ds : List D} (h : shows (k + 1) (.tup ds) = true) : ∀ d ∈ ds, shows k d = true := by
  simp only [shows, Bool.and_eq_true, List.all_eq_true] at h
  exact h.2
theorem ne_len {ds : List D} {k : Nat} : op2D .ne (.int (ds.length : Int)) (.int (k : Int)) = some (false, .bl (!decide (ds.length = k))) := by
  rw [o_ne]
  by_cases h : ds.length = k
  · simp [h]
  · have : ¬ (ds.length : Int) = k := by omega
    simp [h, this]
theorem ne_len2 {ds : List D} : op2D .ne (.int (ds.length : Int)) (.int 2) = some (false, .bl (!decide (ds.length = 2))) := ne_len
section
variable {T : Nat → Option Def} {sub : Nat → Nat → Bool} {wf n : Nat}
@[simp] theorem isTy_tt {ds : List D} : isTy (.tup ds) .tuple = true := rfl
theorem not_tup {d : D} (h : ∀ ds, d ≠ .tup ds) : isTy d .tuple = false := by
  cases d <;> first | rfl | exact (h _ rfl).elim
theorem e_istie (hT : Ext T) {d : D} {m : Int} {k : Nat} (hd : shows (k + 1) d = true) : callD T sub wf (n + 2) 1 [v d, v (.int m)] = .ok false (.bl (isTie m d)) [v d, v (.int m)] := by
  rw [call_eq (hT 1 _ rfl) rfl]
  have hp := shows_plain hd
  by_cases ht : ∃ ds, d = .tup ds
  · obtain ⟨ds, rfl⟩ := ht
    have hs := shows_tup hd
    match ds, hs with
    | [], _ => simp [B.b1, isi_eq hp, isTie]
    | [_], _ => simp [B.b1, isi_eq hp, isTie]
    | [a, b], hs =>
      have ha := shows_plain (hs a (by simp))
      have hb := shows_plain (hs b (by simp))
      have w1 := e_within (sub := sub) (wf := wf) (n := n) hT (l := 0) (m := m - 1) ha
      cases a with
      | int a =>
        have w2 := e_within (sub := sub) (wf := wf) (n := n) hT (l := a + 1) (m := m - 1) hb
        cases hw : within (.int a) 0 (m - 1) with
        | false =>
          have e : isTie m (.tup [.int a, b]) = false := by
            cases b with
            | int b =>
              simp only [within, Bool.and_eq_false_iff, decide_eq_false_iff_not] at hw
              rcases hw with h | h <;> simp [isTie, h]
            | _ => rfl
          simp [B.b1, isi_eq hp, w1, hw, e]
        | true =>
          have e : isTie m (.tup [.int a, b]) = within b (a + 1) (m - 1) := by
            cases b with
            | int b =>
              simp only [within, Bool.and_eq_true, decide_eq_true_eq] at hw
              simp [isTie, within, hw.1, hw.2]
            | _ => rfl
          simp [B.b1, isi_eq hp, w1, hw, w2, e]
      | _ => simp [B.b1, isi_eq hp, w1, within, isTie]
    | a :: b :: c :: r, _ =>
      have e : ¬ (r.length : Int) + 1 + 1 + 1 = 2 := by omega
      simp [B.b1, isi_eq hp, isTie, e]
  · have ht2 := not_tup fun ds e => ht ⟨ds, e⟩
    have e : isTie m d = false := by
      cases d <;> first | rfl | exact (ht ⟨_, rfl⟩).elim
    simp [B.b1, isi_eq hp, ht2, e]
end
theorem isTie_inv {m : Int} {d : D} (h : isTie m d = true) : ∃ p, d = pD p ∧ okTie m p = true := by
  unfold isTie at h
  split at h
  · rename_i a b
    exact ⟨(a, b), rfl, h⟩
  · cases h
theorem ties_of {m : Int} : ∀ {ds : List D}, ds.all (isTie m) = true → ∃ ts : Ties, ds = ts.map pD ∧ ∀ p ∈ ts, okTie m p = true
  | [], _ => ⟨[], rfl, fun _ h => nomatch h⟩
  | d :: ds, h => by
    simp only [List.all_cons, Bool.and_eq_true] at h
    obtain ⟨p, rfl, hp⟩ := isTie_inv h.1
    obtain ⟨ts, rfl, ht⟩ := ties_of h.2
    exact ⟨p :: ts, rfl, fun q hq => by rcases List.mem_cons.mp hq with e | e; · rw [e]; exact hp
                                        · exact ht q e⟩
theorem okTie_iff {m : Int} {p : Int × Int} : okTie m p = true ↔ 0 ≤ p.1 ∧ p.1 < p.2 ∧ p.2 < m := by
  unfold okTie
  simp only [Bool.and_eq_true, decide_eq_true_eq]
  omega
/-! ### order of pairs -/
def ltP (p q : Int × Int) : Prop := p.1 < q.1 ∨ (p.1 = q.1 ∧ p.2 < q.2)
theorem leP_iff {p q : Int × Int} : leP p q = true ↔ ltP p q ∨ p = q := by
  obtain ⟨a, b⟩ := p
  obtain ⟨c, d⟩ := q
  unfold leP ltP
  simp only [Bool.or_eq_true, Bool.and_eq_true, decide_eq_true_eq, Prod.mk.injEq]
  omega
theorem ltP_irr {p : Int × Int} : ¬ ltP p p := by unfold ltP; omega
theorem ltP_tr {p q r : Int × Int} (h : ltP p q) (k : ltP q r) : ltP p r := by unfold ltP at *; omega
theorem ltP_tri (p q : Int × Int) : ltP p q ∨ p = q ∨ ltP q p := by
  obtain ⟨a, b⟩ := p
  obtain ⟨c, d⟩ := q
  unfold ltP
  simp only [Prod.mk.injEq]
  omega
def Inc (ts : Ties) : Prop := ts.Pairwise ltP
theorem insP_mem {x y : Int × Int} : ∀ {l : Ties}, y ∈ insP x l ↔ y = x ∨ y ∈ l
  | [] => by simp [insP]
  | z :: l => by
    simp only [insP]
    by_cases h : leP x z = true
    · simp [h]
    · simp only [h, Bool.false_eq_true, if_false, List.mem_cons, insP_mem (l := l)]
      constructor
      · rintro (a | a | a) <;> simp [a]
      · rintro (a | a | a) <;> simp [a]
@[simp] theorem srtP_mem {y : Int × Int} : ∀ {l : Ties}, y ∈ srtP l ↔ y ∈ l
  | [] => by simp [srtP]
  | x :: l => by simp [srtP, insP_mem, srtP_mem (l := l)]
theorem insP_inc {x : Int × Int} : ∀ {l : Ties}, Inc l → x ∉ l → Inc (insP x l)
  | [], _, _ => by simp [insP, Inc]
  | z :: l, h, hx => by
    obtain ⟨h1, h2⟩ := List.pairwise_cons.mp h
    simp only [insP]
    by_cases hc : leP x z = true
    · simp only [hc, if_true]
      have hxz : ltP x z := (leP_iff.mp hc).resolve_right fun e => hx (by rw [e]; exact List.mem_cons_self)
      refine List.pairwise_cons.mpr ⟨fun w hw => ?_, h⟩
      rcases List.mem_cons.mp hw with e | e
      · rw [e]; exact hxz
      · exact ltP_tr hxz (h1 w e)
    · simp only [hc, Bool.false_eq_true, if_false]
      have hzx : ltP z x := by
        rcases ltP_tri x z with e | e | e
        · exact (hc (leP_iff.mpr (.inl e))).elim
        · exact (hc (leP_iff.mpr (.inr e))).elim
        · exact e
      refine List.pairwise_cons.mpr ⟨fun w hw => ?_, insP_inc h2 fun q => hx (List.mem_cons_of_mem _ q)⟩
      rcases insP_mem.mp hw with e | e
      · rw [e]; exact hzx
      · exact h1 w e
theorem srtP_inc : ∀ {l : Ties}, l.Nodup → Inc (srtP l)
  | [], _ => List.Pairwise.nil
  | x :: l, h => by
    obtain ⟨h1, h2⟩ := List.nodup_cons.mp h
    exact insP_inc (srtP_inc h2) fun q => h1 (srtP_mem.mp q)
theorem srtP_id : ∀ {l : Ties}, Inc l → srtP l = l
  | [], _ => rfl
  | x :: l, h => by
    obtain ⟨h1, h2⟩ := List.pairwise_cons.mp h
    rw [srtP, srtP_id h2]
    cases l with
    | nil => rfl
    | cons z l => rw [insP, if_pos (leP_iff.mpr (.inl (h1 z List.mem_cons_self)))]
theorem dedupP_mem {y : Int × Int} : ∀ {l : Ties}, y ∈ dedupP l ↔ y ∈ l
  | [] => by simp [dedupP]
  | x :: l => by
    simp only [dedupP]
    by_cases h : l.contains x = true
    · simp only [h, if_true, dedupP_mem (l := l), List.mem_cons]
      constructor
      · exact .inr
      · rintro (e | e)
        · rw [e]; simpa using h
        · exact e
    · have h' : l.contains x = false := by simpa using h
      simp only [h', Bool.false_eq_true, if_false, List.mem_cons, dedupP_mem (l := l)]
theorem dedupP_nodup : ∀ l : Ties, (dedupP l).Nodup
  | [] => List.nodup_nil
  | x :: l => by
    simp only [dedupP]
    by_cases h : l.contains x = true
    · simp only [h, if_true]; exact dedupP_nodup l
    · have h' : l.contains x = false := by simpa using h
      simp only [h', Bool.false_eq_true, if_false]
      exact List.nodup_cons.mpr ⟨fun z => by rw [dedupP_mem] at z; exact h (by simpa using z), dedupP_nodup l⟩
theorem dedupP_id : ∀ {l : Ties}, l.Nodup → dedupP l = l
  | [], _ => rfl
  | x :: l, h => by
    obtain ⟨h1, h2⟩ := List.nodup_cons.mp h
    have : l.contains x = false := by simpa using h1
    simp only [dedupP, this, Bool.false_eq_true, if_false, dedupP_id h2]
theorem Inc.nodup {l : Ties} (h : Inc l) : l.Nodup := h.imp fun {a b} k e => by rw [e] at k; exact ltP_irr k
theorem sorted_iff {l : Ties} : srtP (dedupP l) = l ↔ Inc l := by
  constructor
  · intro h; rw [← h]; exact srtP_inc (dedupP_nodup l)
  · intro h; rw [dedupP_id h.nodup, srtP_id h]
instance (p q : Int × Int) : Decidable (ltP p q) := by unfold ltP; exact inferInstance
instance (l : Ties) : Decidable (Inc l) := by unfold Inc; exact inferInstance
theorem eqDs_pairs : ∀ ps qs : Ties, eqDs (ps.map pD) (qs.map pD) = decide (ps = qs)
  | [], [] => by simp [eqDs]
  | [], _ :: _ => by simp [eqDs]
  | _ :: _, [] => by simp [eqDs]
  | p :: ps, q :: qs => by
    simp only [List.map_cons, eqDs, eqDs_pairs ps qs, pD, eqD]
    obtain ⟨a, b⟩ := p
    obtain ⟨c, d⟩ := q
    by_cases h1 : a = c <;> by_cases h2 : b = d <;> by_cases h3 : ps = qs <;> simp [h1, h2, h3]
theorem eqOk_pairs (k : Nat) : ∀ ps : Ties, (ps.map pD).all (eqOk (k + 1)) = true
  | [] => rfl
  | p :: ps => by
    simp only [List.map_cons, List.all_cons, eqOk_pairs k ps, Bool.and_true, pD, eqOk, List.all_nil]
theorem o_neP {ps qs : Ties} : op2D .ne (.lst (ps.map pD)) (.lst (qs.map pD)) = some (false, .bl (!decide (ps = qs))) := by
  show (if eqOk 20 (.lst (ps.map pD)) && eqOk 20 (.lst (qs.map pD)) then oBl (!eqD (.lst (ps.map pD)) (.lst (qs.map pD))) else _) = _
  have h1 : eqOk 20 (.lst (ps.map pD)) = true := eqOk_pairs 18 ps
  have h2 : eqOk 20 (.lst (qs.map pD)) = true := eqOk_pairs 18 qs
  rw [h1, h2]
  simp only [Bool.and_self, if_true, oBl]
  rw [show eqD (.lst (ps.map pD)) (.lst (qs.map pD)) = eqDs (ps.map pD) (qs.map pD) by simp [eqD], eqDs_pairs]
theorem o_sset {ps : Ties} (h1 : ps.length < 64) (h2 : ∀ p ∈ ps, 0 ≤ p.1 ∧ p.1 < 64 ∧ 0 ≤ p.2 ∧ p.2 < 64) {d : D} (hd : itemsOf d = some (ps.map pD)) : op1D .sset d = some (true, .lst ((srtP (dedupP ps)).map pD)) := by
  by_cases h : ps = []
  · subst h
    have e : op1D .sset d = op1D .sset (.lst []) := by
      cases d <;> simp only [itemsOf, reduceCtorEq, Option.some.injEq] at hd <;> subst hd <;> rfl
    rw [e]
    rfl
  · show (match itemsOf d with
      | some ds => match intsOf ds with
        | some ns => if decide (ns.length < 1000) && decide ((dedupI ns).length < 64) then oLst ((srtI (dedupI ns)).map .int) else none
        | none => match pairsOf ds with
          | some ps => if decide (ps.length < 64) && ps.all (fun p => decide (0 ≤ p.1) && decide (p.1 < 64) && decide (0 ≤ p.2) && decide (p.2 < 64)) then oLst ((srtP (dedupP ps)).map pD) else none
          | none => none
      | none => none) = _
    rw [hd]
    simp only
    rw [intsOf_pairs ps h, pairsOf_map]
    have : ps.all (fun p => decide (0 ≤ p.1) && decide (p.1 < 64) && decide (0 ≤ p.2) && decide (p.2 < 64)) = true := by
      rw [List.all_eq_true]
      intro p hp
      obtain ⟨a, b, c, d⟩ := h2 p hp
      simp [a, b, c, d]
    simp only [this, h1, decide_true, Bool.and_self, if_true]
    rfl
/-- what is_web tells -/
def isWeb : D → Bool
  | .tup [.int n, .tup ds] => decide (2 ≤ n) && decide (n ≤ 40) && ds.all (isTie n) && (match pairsOf ds with
    | some ts => decide (Inc ts) && decide (((reach ts 0 none).length : Int) = n)
    | none => false)
  | _ => false
/-- few ties -/
def few : D → Prop
  | .tup [_, .tup ds] => ds.length < 64
  | _ => True
section
variable {T : Nat → Option Def} {sub : Nat → Nat → Bool} {wf n : Nat}
theorem all_bls : ∀ (p : D → Bool) (ds : List D), blsOf (ds.map fun d => .bl (p d)) = some (ds.map p)
  | _, [] => rfl
  | p, d :: ds => by simp only [List.map_cons, blsOf, all_bls p ds, Option.map_some]
theorem o_all {p : D → Bool} {ds : List D} : op1D .all_ (.lst (ds.map fun d => .bl (p d))) = some (false, .bl (ds.all p)) := by
  show (match blsOf (ds.map fun d => .bl (p d)) with | some bs => oBl (bs.all id) | none => none) = _
  rw [all_bls]
  show some (false, D.bl ((ds.map p).all id)) = _
  rw [List.all_map]; rfl
theorem filterMap_some {g : D → D} {ds : List D} : ds.filterMap (fun x => some (g x)) = ds.map g := by
  induction ds with
  | nil => rfl
  | cons d ds ih => rw [List.filterMap_cons, List.map_cons, ← ih]
theorem e_isweb (hT : Ext T) {d : D} (hd : shows 20 d = true) (hf : few d) (hw : 200 ≤ wf) (hw2 : wf ≤ lim) : callD T sub wf (n + 3) 4 [v d] = .ok false (.bl (isWeb d)) [v d] := by
  rw [call_eq (hT 4 _ rfl) rfl]
  have hp := shows_plain hd
  by_cases ht : ∃ ds, d = .tup ds
  case neg =>
    have ht2 := not_tup fun ds e => ht ⟨ds, e⟩
    have e : isWeb d = false := by
      cases d <;> first | rfl | exact (ht ⟨_, rfl⟩).elim
    simp [B.b4, isi_eq hp, ht2, e]
  obtain ⟨ds, rfl⟩ := ht
  have hs := shows_tup hd
  match ds, hs, hf with
  | [], _, _ => simp [B.b4, isi_eq hp, isWeb]
  | [_], _, _ => simp [B.b4, isi_eq hp, isWeb]
  | x :: y :: z :: r, _, _ =>
    have e : ¬ (r.length : Int) + 1 + 1 + 1 = 2 := by omega
    simp [B.b4, isi_eq hp, isWeb, e]
  | [x, y], hs, hf =>
  have hx := shows_plain (hs x (by simp))
  have hy := hs y (by simp)
  have hyp := shows_plain hy
  have w1 := e_within (sub := sub) (wf := wf) (n := n + 1) hT (l := 2) (m := 40) hx
  cases hwi : within x 2 40 with
  | false =>
    have e : isWeb (.tup [x, y]) = false := by
      cases x with
      | int m =>
        cases y with
        | tup ds =>
          simp only [within, Bool.and_eq_false_iff, decide_eq_false_iff_not] at hwi
          rcases hwi with h | h <;> simp [isWeb, h]
        | _ => rfl
      | _ => rfl
    simp [B.b4, isi_eq hp, w1, hwi, e]
  | true =>
  obtain ⟨m, rfl⟩ : ∃ m, x = .int m := by
    cases x with
    | int m => exact ⟨m, rfl⟩
    | _ => cases hwi
  simp only [within, Bool.and_eq_true, decide_eq_true_eq] at hwi
  have hwt : within (.int m) 2 40 = true := by simp [within, hwi.1, hwi.2]
  by_cases hty : ∃ ds, y = .tup ds
  case neg =>
    have ht2 := not_tup fun ds e => hty ⟨ds, e⟩
    have e : isWeb (.tup [.int m, y]) = false := by
      cases y <;> first | rfl | exact (hty ⟨_, rfl⟩).elim
    simp [B.b4, isi_eq hp, isi_eq hyp, w1, hwt, ht2, e]
  obtain ⟨ds, rfl⟩ := hty
  have hds := shows_tup hy
  have hfl : ds.length < 64 := hf
  have hfl2 : ds.length ≤ lim := by have : lim = 100000 := rfl; omega
  have lp : loopC (cturn (callD T sub wf (n + 2)) sub [1, 2] (.nm 2) [] (.call 1 [.e (.var 2), .e (.op2 .idx (.pk 0) (.cst (.int 0)))])) ds [v (.tup [.int m, .tup ds]), .no, .no] =
      .ok (ds.map fun d => .bl (isTie m d)) [v (.tup [.int m, .tup ds]), .no, .no] := by
    rw [loopC_fm (fun x => some (.bl (isTie m x))), filterMap_some]
    intro x hx
    have c := e_istie (sub := sub) (wf := wf) (n := n) hT (m := m) (hds x hx)
    simp [cturn, c]
  cases hall : ds.all (isTie m) with
  | false =>
    have e : isWeb (.tup [.int m, .tup ds]) = false := by simp [isWeb, hall]
    simp [B.b4, isi_eq hp, isi_eq hyp, w1, hwt, e, lp, hfl2, o_all, hall]
  | true =>
  obtain ⟨ts, rfl, hts⟩ := ties_of hall
  have hl : ts.length < 64 := by simpa using hfl
  have hfl3 : ts.length ≤ lim := by simpa using hfl2
  have hb : ∀ p ∈ ts, 0 ≤ p.1 ∧ p.1 < 64 ∧ 0 ≤ p.2 ∧ p.2 < 64 := fun p hp => by
    have := okTie_iff.mp (hts p hp); omega
  have e : isWeb (.tup [.int m, .tup (ts.map pD)]) = (decide (Inc ts) && decide (((reach ts 0 none).length : Int) = m)) := by
    simp [isWeb, hall, hwi.1, hwi.2]
  have c3 : callD T sub wf (n + 2) 3 [v (.tup (ts.map pD)), v (.int 0), v .non] = .ok true (oks (reach ts 0 none)) [v (.tup (ts.map pD)), v (.int 0), v .non] := e_reached (sub := sub) (wf := wf) (n := n) hT (d := .tup (ts.map pD)) (ts := ts) (b := 0) (bar := none) rfl (by omega) hw2
  have oa : op1D .all_ (.lst ((ts.map pD).map fun d => .bl (isTie m d))) = some (false, .bl true) := by rw [o_all, hall]
  have so := o_sset hl hb (d := .tup (ts.map pD)) rfl
  by_cases hi : Inc ts
  · have q : ts = srtP (dedupP ts) := (sorted_iff.mpr hi).symm
    have ne : op2D .ne (.lst (ts.map pD)) (.lst ((srtP (dedupP ts)).map pD)) = some (false, .bl false) := by rw [o_neP]; simp [← q]
    simp [B.b4, isi_eq hp, isi_eq hyp, w1, hwt, e, lp, hfl2, hfl3, oa, so, ne, hi, -List.map_map, c3, oks]
  · have q : ¬ ts = srtP (dedupP ts) := fun z => hi (sorted_iff.mp z.symm)
    have ne : op2D .ne (.lst (ts.map pD)) (.lst ((srtP (dedupP ts)).map pD)) = some (false, .bl true) := by rw [o_neP]; simp [q]
    simp [B.b4, isi_eq hp, isi_eq hyp, w1, hwt, e, lp, hfl2, hfl3, oa, so, ne, hi, -List.map_map]
end
end M

set_option Elab.async false
set_option linter.all false
set_option maxRecDepth 100000
/-! The law's own look at webs. -/
namespace M
open PySem Sb
/-- a loop that ends early if an item is not as it should be -/
theorem for_chk {f : D → Sb.Env → RS} (p : D → Bool) (Inv : Sb.Env → Prop) : ∀ {xs : List D} {e : Sb.Env},
    (∀ x e, x ∈ xs → Inv e → if p x = true then ∃ e', f x e = .nxt e' ∧ Inv e' else ∃ e', f x e = .ret false (.bl false) e' ∧ Inv e') → Inv e →
    if xs.all p = true then ∃ e', loopF f xs e = .nxt e' ∧ Inv e' else ∃ e', loopF f xs e = .ret false (.bl false) e' ∧ Inv e'
  | [], e, _, h => ⟨e, rfl, h⟩
  | x :: xs, e, k, h => by
    have k1 := k x e List.mem_cons_self h
    cases q : p x with
    | false =>
      rw [q, if_neg (by simp)] at k1
      obtain ⟨e1, q1, h1⟩ := k1
      rw [List.all_cons, q, if_neg (by simp)]
      exact ⟨e1, by rw [loopF, q1], h1⟩
    | true =>
      rw [q, if_pos rfl] at k1
      obtain ⟨e1, q1, h1⟩ := k1
      have k2 := for_chk p Inv (xs := xs) (e := e1) (fun y e hy => k y e (List.mem_cons_of_mem _ hy)) h1
      rw [List.all_cons, q, Bool.true_and]
      have e0 : loopF f (x :: xs) e = loopF f xs e1 := by rw [loopF, q1]
      rw [e0]
      exact k2
def isBay (d : D) (n : Int) : Bool := within d 0 (n - 1)
theorem o_neAll {ds : List D} (h : ds.all (eqOk 19) = true) : op2D .ne (.lst ds) (.lst []) = some (false, .bl (!ds.isEmpty)) := by
  show (if eqOk 20 (.lst ds) && eqOk 20 (.lst []) then oBl (!eqD (.lst ds) (.lst [])) else _) = _
  have h1 : eqOk 20 (.lst ds) = true := h
  have h2 : eqOk 20 (.lst []) = true := rfl
  rw [h1, h2]
  simp only [Bool.and_self, if_true, oBl]
  rw [show eqD (.lst ds) (.lst []) = eqDs ds [] by simp [eqD], eqDs_nil]
theorem cutD_1 {ds : List D} : cutD ds (some 1) none = ds.drop 1 := by
  unfold cutD
  have h1 : HT.sIx ds.length 0 (some 1) = min 1 ds.length := HT.sIx_nat _ _ 1
  have h2 : HT.sIx ds.length ds.length none = ds.length := rfl
  rw [h1, h2]
  cases ds with
  | nil => rfl
  | cons d ds => simp
theorem zipD_map : ∀ (ps qs : Ties), zipD (ps.map pD) (qs.map pD) = (ps.zip qs).map fun z => .tup [pD z.1, pD z.2]
  | [], _ => by simp [zipD]
  | _ :: _, [] => by simp [zipD]
  | p :: ps, q :: qs => by simp [zipD, zipD_map ps qs]
theorem o_geP {p q : Int × Int} : op2D .ge (pD p) (pD q) = some (false, .bl (!decide (ltP p q))) := by
  obtain ⟨a, b⟩ := p
  obtain ⟨c, d⟩ := q
  show some (false, D.bl (!HT.lexLt [a, b] [c, d])) = _
  congr 4
  simp only [HT.lexLt, ltP]
  by_cases h1 : a = c
  · subst h1
    by_cases h2 : b = d
    · subst h2; simp
    · simp [h2]
  · by_cases h2 : a < c <;> simp [h1, h2]
theorem inc_zip : ∀ (l : Ties), (l.zip (l.drop 1)).all (fun z => decide (ltP z.1 z.2)) = decide (Inc l)
  | [] => by simp [Inc]
  | [p] => by simp [Inc]
  | p :: q :: l => by
    have ih := inc_zip (q :: l)
    simp only [List.drop_succ_cons, List.drop_zero, List.zip_cons_cons, List.all_cons] at ih ⊢
    rw [ih]
    by_cases h1 : Inc (q :: l)
    · have e : Inc (p :: q :: l) ↔ ltP p q := by
        unfold Inc at h1 ⊢
        obtain ⟨h2, h3⟩ := List.pairwise_cons.mp h1
        constructor
        · intro h; exact (List.pairwise_cons.mp h).1 q List.mem_cons_self
        · intro h
          refine List.pairwise_cons.mpr ⟨fun w hw => ?_, h1⟩
          rcases List.mem_cons.mp hw with z | z
          · rw [z]; exact h
          · exact ltP_tr h (h2 w z)
      by_cases h : ltP p q
      · simp [h1, h, e.mpr h]
      · have : ¬ Inc (p :: q :: l) := fun z => h (e.mp z)
        simp [h1, h, this]
    · have : ¬ Inc (p :: q :: l) := fun h => h1 (List.pairwise_cons.mp h).2
      simp [h1, this]
section
variable {T : Nat → Option Def} {sub : Nat → Nat → Bool} {wf n : Nat}
theorem e_isbay (hT : Ext T) {x : D} {m : Int} (hx : plainD x = true) : callD T sub wf (n + 1) 28 [v x, v (.int m)] = .ok false (.bl (isBay x m)) [v x, v (.int m)] := by
  rw [call_eq (hT 28 _ rfl) rfl]
  cases x with
  | int i =>
    have e : decide (i ≤ m - 1) = decide (i < m) := by congr 1; exact propext (by omega)
    by_cases h : 0 ≤ i <;> simp [B.b28, isi_eq hx, isTy, isBay, within, h, e]
  | obj _ _ => cases hx
  | scr _ => cases hx
  | bl _ => simp [B.b28, isi_eq hx, isTy, isBay, within]
  | _ => simp [B.b28, isi_eq hx, isTy, isBay, within]
theorem filter_none {p : D → Bool} {ds : List D} : (ds.filterMap fun x => if p x = true then none else some (D.int 1)).isEmpty = ds.all p := by
  induction ds with
  | nil => rfl
  | cons d ds ih =>
    rw [List.filterMap_cons]
    cases q : p d with
    | true => simp [q, ih]
    | false => simp [q]
theorem filter_ok {p : D → Bool} {ds : List D} : (ds.filterMap fun x => if p x = true then none else some (D.int 1)).all (eqOk 19) = true := by
  rw [List.all_eq_true]
  intro x hx
  obtain ⟨y, _, h⟩ := List.mem_filterMap.mp hx
  split at h
  · cases h
  · cases h; rfl
theorem e_tieturn (hT : Ext T) {w d : D} {ds : List D} {m : Int} {e : Sb.Env} {k : Nat} (hd : shows (k + 1) d = true) (hw : w = .tup [.int m, .tup ds]) (he : ∃ t, t.pin = false ∧ e = [v w, t, .no, .no, .no, .no]) :
    if isTie m d = true then ∃ e', turn (callD T sub wf (n + 2)) sub wf (.nm 1) [.ifs (.or_ (.not_ (.val (.op1 (.isi [.tuple]) (.pk 1)))) (.or_ (.val (.op2 .ne (.op1 .len (.pk 1)) (.cst (.int 2)))) (.val (.op2 .ne (.comp (.seq (.var 1)) (.nm 3) [2, 3] [.not_ (.val (.call 28 [.e (.var 3), .e (.op2 .idx (.pk 0) (.cst (.int 0)))]))] (.cst (.int 1))) (.lst []))))) [.ret (.cst (.bl false))] [],
  .ifs (.val (.op2 .ge (.op2 .idx (.pk 1) (.cst (.int 0))) (.op2 .idx (.pk 1) (.cst (.int 1))))) [.ret (.cst (.bl false))] []] d e = .nxt e' ∧ ∃ t, t.pin = false ∧ e' = [v w, t, .no, .no, .no, .no]
    else ∃ e', turn (callD T sub wf (n + 2)) sub wf (.nm 1) [.ifs (.or_ (.not_ (.val (.op1 (.isi [.tuple]) (.pk 1)))) (.or_ (.val (.op2 .ne (.op1 .len (.pk 1)) (.cst (.int 2)))) (.val (.op2 .ne (.comp (.seq (.var 1)) (.nm 3) [2, 3] [.not_ (.val (.call 28 [.e (.var 3), .e (.op2 .idx (.pk 0) (.cst (.int 0)))]))] (.cst (.int 1))) (.lst []))))) [.ret (.cst (.bl false))] [],
  .ifs (.val (.op2 .ge (.op2 .idx (.pk 1) (.cst (.int 0))) (.op2 .idx (.pk 1) (.cst (.int 1))))) [.ret (.cst (.bl false))] []] d e = .ret false (.bl false) e' ∧ ∃ t, t.pin = false ∧ e' = [v w, t, .no, .no, .no, .no] := by
  subst hw
  obtain ⟨t, ht, rfl⟩ := he
  have hp := shows_plain hd
  by_cases hty : ∃ es, d = .tup es
  case neg =>
    have ht2 := not_tup fun ds e => hty ⟨ds, e⟩
    have e : isTie m d = false := by
      cases d <;> first | rfl | exact (hty ⟨_, rfl⟩).elim
    rw [e, if_neg (by simp)]
    exact ⟨[v (.tup [.int m, .tup ds]), v d, .no, .no, .no, .no], by simp [turn, ht, isi_eq hp, ht2], v d, rfl, rfl⟩
  obtain ⟨es, rfl⟩ := hty
  have hs := shows_tup hd
  have lp : es.length ≤ lim → loopC (cturn (callD T sub wf (n + 2)) sub [2, 3] (.nm 3) [.not_ (.val (.call 28 [.e (.var 3), .e (.op2 .idx (.pk 0) (.cst (.int 0)))]))] (.cst (.int 1))) es [v (.tup [.int m, .tup ds]), v (.tup es), .no, .no, .no, .no] =
      .ok (es.filterMap fun x => if isBay x m = true then none else some (.int 1)) [v (.tup [.int m, .tup ds]), v (.tup es), .no, .no, .no, .no] := fun _ => by
    rw [loopC_fm (fun x => if isBay x m = true then none else some (.int 1))]
    intro x hx
    have c := e_isbay (sub := sub) (wf := wf) (n := n + 1) hT (m := m) (shows_plain (hs x hx))
    cases q : isBay x m <;> simp [cturn, c, q]
  match es, hs, lp with
  | [], _, _ =>
    rw [if_neg (by simp [isTie])]
    exact ⟨_, by simp [turn, ht, isi_eq hp], v (.tup []), rfl, rfl⟩
  | [a], _, _ =>
    rw [if_neg (by simp [isTie])]
    exact ⟨_, by simp [turn, ht, isi_eq hp], v (.tup [a]), rfl, rfl⟩
  | a :: b :: c :: r, _, _ =>
    have e : ¬ (r.length : Int) + 1 + 1 + 1 = 2 := by omega
    rw [if_neg (by simp [isTie])]
    exact ⟨_, by simp [turn, ht, isi_eq hp, e], v (.tup (a :: b :: c :: r)), rfl, rfl⟩
  | [a, b], hs, lp =>
    have lp := lp (by show 2 ≤ 100000; omega)
    have h2 : (2 : Nat) ≤ lim := by show 2 ≤ 100000; omega
    have ne := o_neAll (filter_ok (p := fun x => isBay x m) (ds := [a, b]))
    rw [filter_none] at ne
    cases hall : [a, b].all (fun x => isBay x m) with
    | false =>
      have e : isTie m (.tup [a, b]) = false := by
        cases a with
        | int a => cases b with
          | int b =>
            simp only [List.all_cons, List.all_nil, isBay, within, Bool.and_true, Bool.and_eq_false_iff, decide_eq_false_iff_not] at hall
            unfold isTie
            simp only [Bool.and_eq_false_iff, decide_eq_false_iff_not]
            omega
          | _ => rfl
        | _ => rfl
      rw [e, if_neg (by simp)]
      rw [hall] at ne
      exact ⟨_, by simp [turn, ht, isi_eq hp, lp, h2, ne], v (.tup [a, b]), rfl, rfl⟩
    | true =>
      rw [hall] at ne
      simp only [List.all_cons, List.all_nil, Bool.and_true, Bool.and_eq_true] at hall
      obtain ⟨ha, hb⟩ := hall
      obtain ⟨a, rfl⟩ : ∃ i, a = .int i := by cases a <;> first | exact ⟨_, rfl⟩ | cases ha
      obtain ⟨b, rfl⟩ : ∃ i, b = .int i := by cases b <;> first | exact ⟨_, rfl⟩ | cases hb
      simp only [isBay, within, Bool.and_eq_true, decide_eq_true_eq] at ha hb
      by_cases hab : a < b
      · have e : isTie m (.tup [.int a, .int b]) = true := by
          unfold isTie
          simp only [Bool.and_eq_true, decide_eq_true_eq]
          omega
        have hab2 : ¬ b ≤ a := by omega
        rw [e, if_pos rfl]
        exact ⟨_, by simp [turn, ht, isi_eq hp, lp, h2, ne, hab2], v (.tup [.int a, .int b]), rfl, rfl⟩
      · have e : isTie m (.tup [.int a, .int b]) = false := by
          unfold isTie
          simp only [Bool.and_eq_false_iff, decide_eq_false_iff_not]
          omega
        have hab2 : b ≤ a := by omega
        rw [e, if_neg (by simp)]
        exact ⟨_, by simp [turn, ht, isi_eq hp, lp, h2, ne, hab2], v (.tup [.int a, .int b]), rfl, rfl⟩
def incP : D → Bool
  | .tup [.tup [.int a, .int b], .tup [.int c, .int d]] => decide (ltP (a, b) (c, d))
  | _ => true
theorem incP_eq {z : (Int × Int) × (Int × Int)} : incP (.tup [pD z.1, pD z.2]) = decide (ltP z.1 z.2) := rfl
theorem e_lawweb (hT : Ext T) {d : D} (hd : shows 20 d = true) (hf : few d) (hw : 200 ≤ wf) (hw2 : wf ≤ lim) : callD T sub wf (n + 3) 29 [v d] = .ok false (.bl (isWeb d)) [v d] := by
  rw [call_eq (hT 29 _ rfl) rfl]
  have hp := shows_plain hd
  by_cases ht : ∃ ds, d = .tup ds
  case neg =>
    have ht2 := not_tup fun ds e => ht ⟨ds, e⟩
    have e : isWeb d = false := by
      cases d <;> first | rfl | exact (ht ⟨_, rfl⟩).elim
    simp [B.b29, isi_eq hp, ht2, e]
  obtain ⟨ds, rfl⟩ := ht
  have hs := shows_tup hd
  match ds, hs, hf with
  | [], _, _ => simp [B.b29, isi_eq hp, isWeb]
  | [_], _, _ => simp [B.b29, isi_eq hp, isWeb]
  | x :: y :: z :: r, _, _ =>
    have e : ¬ (r.length : Int) + 1 + 1 + 1 = 2 := by omega
    simp [B.b29, isi_eq hp, isWeb, e]
  | [x, y], hs, hf =>
  have hx := shows_plain (hs x (by simp))
  have hy := hs y (by simp)
  have hyp := shows_plain hy
  have w1 := e_isbay (sub := sub) (wf := wf) (n := n + 1) hT (m := 41) hx
  cases hwi : isBay x 41 with
  | false =>
    have e : isWeb (.tup [x, y]) = false := by
      cases x with
      | int m =>
        cases y with
        | tup ds =>
          simp only [isBay, within, Bool.and_eq_false_iff, decide_eq_false_iff_not] at hwi
          have : ¬ (2 ≤ m ∧ m ≤ 40) := by omega
          by_cases h : 2 ≤ m
          · have h2 : ¬ m ≤ 40 := fun z => this ⟨h, z⟩
            simp [isWeb, h2]
          · simp [isWeb, h]
        | _ => rfl
      | _ => rfl
    simp [B.b29, isi_eq hp, w1, hwi, e]
  | true =>
  obtain ⟨m, rfl⟩ : ∃ m, x = .int m := by
    cases x with
    | int m => exact ⟨m, rfl⟩
    | _ => cases hwi
  by_cases h2m : m < 2
  · have e : isWeb (.tup [.int m, y]) = false := by
      have : ¬ 2 ≤ m := by omega
      cases y <;> first | rfl | simp [isWeb, this]
    simp [B.b29, isi_eq hp, w1, hwi, e, h2m]
  have hwt := hwi
  simp only [isBay, within, Bool.and_eq_true, decide_eq_true_eq] at hwi
  have m2 : 2 ≤ m := by omega
  have m40 : m ≤ 40 := by omega
  by_cases hty : ∃ ds, y = .tup ds
  case neg =>
    have ht2 := not_tup fun ds e => hty ⟨ds, e⟩
    have e : isWeb (.tup [.int m, y]) = false := by
      cases y <;> first | rfl | exact (hty ⟨_, rfl⟩).elim
    simp [B.b29, isi_eq hp, isi_eq hyp, w1, hwt, ht2, e, h2m]
  obtain ⟨ds, rfl⟩ := hty
  have hds := shows_tup hy
  have hfl : ds.length < 64 := hf
  have chk := for_chk (f := turn (callD T sub wf (n + 2)) sub wf (.nm 1) [.ifs (.or_ (.not_ (.val (.op1 (.isi [.tuple]) (.pk 1)))) (.or_ (.val (.op2 .ne (.op1 .len (.pk 1)) (.cst (.int 2)))) (.val (.op2 .ne (.comp (.seq (.var 1)) (.nm 3) [2, 3] [.not_ (.val (.call 28 [.e (.var 3), .e (.op2 .idx (.pk 0) (.cst (.int 0)))]))] (.cst (.int 1))) (.lst []))))) [.ret (.cst (.bl false))] [],
    .ifs (.val (.op2 .ge (.op2 .idx (.pk 1) (.cst (.int 0))) (.op2 .idx (.pk 1) (.cst (.int 1))))) [.ret (.cst (.bl false))] []]) (isTie m) (fun e => ∃ t, t.pin = false ∧ e = [v (.tup [.int m, .tup ds]), t, .no, .no, .no, .no]) (xs := ds) (e := [v (.tup [.int m, .tup ds]), .no, .no, .no, .no, .no])
    (fun x e hx he => e_tieturn hT (hds x hx) rfl he) ⟨.no, rfl, rfl⟩
  cases hall : ds.all (isTie m) with
  | false =>
    rw [hall, if_neg (by simp)] at chk
    obtain ⟨e', q, t, _, rfl⟩ := chk
    have e : isWeb (.tup [.int m, .tup ds]) = false := by simp [isWeb, hall]
    simp [B.b29, isi_eq hp, isi_eq hyp, w1, hwt, e, q, h2m]
  | true =>
  rw [hall, if_pos rfl] at chk
  obtain ⟨e', q, t, ht, rfl⟩ := chk
  obtain ⟨ts, rfl, hts⟩ := ties_of hall
  have hl : ts.length < 64 := by simpa using hfl
  have e : isWeb (.tup [.int m, .tup (ts.map pD)]) = (decide (Inc ts) && decide (((reach ts 0 none).length : Int) = m)) := by
    simp [isWeb, hall, m2, m40]
  have c3 : callD T sub wf (n + 2) 18 [v (.tup (ts.map pD)), v (.int 0), v .non] = .ok true (oks (reach ts 0 none)) [v (.tup (ts.map pD)), v (.int 0), v .non] := e_reached2 (sub := sub) (wf := wf) (n := n) hT (d := .tup (ts.map pD)) (ts := ts) (b := 0) (bar := none) rfl (by omega) hw2 fun p hp => by
    have := okTie_iff.mp (hts p hp); omega
  have hz : (ts.zip (ts.drop 1)).length ≤ lim := by
    have : lim = 100000 := rfl
    rw [List.length_zip]
    omega
  obtain ⟨Zs, hZ⟩ : ∃ Zs : List D, Zs = (ts.zip (ts.drop 1)).map fun z => .tup [pD z.1, pD z.2] := ⟨_, rfl⟩
  have zp : zipD (ts.map pD) ((ts.map pD).drop 1) = Zs := by rw [hZ, ← List.map_drop, zipD_map]
  have hzl : Zs.length ≤ lim := by rw [hZ, List.length_map]; exact hz
  obtain ⟨G, lp, ne⟩ : ∃ G, loopC (cturn (callD T sub wf (n + 2)) sub [2, 4, 5] (.nms [4, 5]) [.val (.op2 .ge (.pk 4) (.pk 5))] (.cst (.int 1))) Zs [v (.tup [.int m, .tup (ts.map pD)]), t, .no, .no, .no, .no] = .ok G [v (.tup [.int m, .tup (ts.map pD)]), t, .no, .no, .no, .no] ∧
      op2D .ne (.lst G) (.lst []) = some (false, .bl (!decide (Inc ts))) := by
    refine ⟨Zs.filterMap fun x => if incP x = true then none else some (.int 1), loopC_fm _ fun x hx => ?_, ?_⟩
    · rw [hZ] at hx
      obtain ⟨z, _, rfl⟩ := List.mem_map.mp hx
      have g : op2D .ge (pD z.1) (pD z.2) = some (false, .bl (!decide (ltP z.1 z.2))) := o_geP
      rw [incP_eq]
      by_cases q : ltP z.1 z.2 <;> simp [cturn, g, q]
    · rw [o_neAll filter_ok, filter_none, hZ, List.all_map, ← inc_zip]
      congr 6
  by_cases hi : Inc ts
  · simp [B.b29, isi_eq hp, isi_eq hyp, w1, hwt, h2m, e, q, slD, oTup, cutD_1, zp, hzl, lp, ne, hi, c3, oks, -List.drop_one, -List.map_tail]
  · simp [B.b29, isi_eq hp, isi_eq hyp, w1, hwt, h2m, e, q, slD, oTup, cutD_1, zp, hzl, lp, ne, hi, -List.drop_one, -List.map_tail]
end
end M

set_option Elab.async false
set_option linter.all false
set_option maxRecDepth 100000
/-! Distances: by a row that grows, by levels. -/
namespace M
open PySem Sb
abbrev keys (fs : Ties) : List Int := fs.map (·.1)
def fD (fs : Ties) : D := .dct ((keys fs).map .int) ((fs.map (·.2)).map .int)
def qpush (l : Int) (fs : Ties) (o : Int) : Ties := if o ∈ keys fs then fs else fs ++ [(o, l + 1)]
def qstep (ts : Ties) (s : Ties × Nat) : Option (Ties × Nat) := match s.1[s.2]? with
  | none => none
  | some p => some ((near ts p.1).foldl (qpush p.2) s.1, s.2 + 1)
theorem val_nd : ∀ {fs : Ties} {i : Nat} {p : Int × Int}, (keys fs).Nodup → fs[i]? = some p → val fs p.1 = some p.2
  | q :: fs, 0, p, _, h => by simp at h; subst h; simp [val]
  | q :: fs, i + 1, p, nd, h => by
    simp only [List.getElem?_cons_succ] at h
    simp only [keys, List.map_cons, List.nodup_cons] at nd
    have hm : p.1 ∈ keys fs := List.mem_map.mpr ⟨p, List.mem_of_getElem? h, rfl⟩
    have : ¬ q.1 = p.1 := fun e => nd.1 (by rw [e]; exact hm)
    obtain ⟨a, b⟩ := q
    simp only [val, this, if_false]
    exact val_nd nd.2 h
  | [], _, _, _, h => by simp at h
theorem val_mem {fs : Ties} {p : Int × Int} (nd : (keys fs).Nodup) (h : p ∈ fs) : val fs p.1 = some p.2 := by
  obtain ⟨i, hi⟩ := List.getElem?_of_mem h
  exact val_nd nd hi
theorem qpush_nd {l : Int} {fs : Ties} {o : Int} (nd : (keys fs).Nodup) : (keys (qpush l fs o)).Nodup := by
  unfold qpush
  split
  · exact nd
  · rename_i h
    simp only [keys, List.map_append, List.map_cons, List.map_nil]
    exact List.nodup_append.mpr ⟨nd, by simp, fun a ha b hb e => h (by
      have : b = o := by simpa using hb
      rw [← this, ← e]; exact ha)⟩
theorem qpush_pre {l : Int} {fs : Ties} {o : Int} : ∃ r, qpush l fs o = fs ++ r := by
  unfold qpush
  split
  · exact ⟨[], by simp⟩
  · exact ⟨_, rfl⟩
theorem qpushes_nd {l : Int} : ∀ {os : List Int} {fs : Ties}, (keys fs).Nodup → (keys (os.foldl (qpush l) fs)).Nodup
  | [], _, nd => nd
  | o :: os, fs, nd => qpushes_nd (os := os) (qpush_nd nd)
theorem qpushes_pre {l : Int} : ∀ {os : List Int} {fs : Ties}, ∃ r, os.foldl (qpush l) fs = fs ++ r
  | [], fs => ⟨[], by simp⟩
  | o :: os, fs => by
    obtain ⟨r, e⟩ := qpush_pre (l := l) (fs := fs) (o := o)
    obtain ⟨r2, e2⟩ := qpushes_pre (l := l) (os := os) (fs := qpush l fs o)
    exact ⟨r ++ r2, by rw [List.foldl_cons, e2, e, List.append_assoc]⟩
/-- what is still to be come to -/
def unf (U : List Int) (fs : Ties) : Nat := (U.filter fun x => decide (x ∉ keys fs)).length
theorem qpush_unf {U : List Int} {l : Int} {fs : Ties} {o : Int} (h : o ∈ U) : unf U (qpush l fs o) + (qpush l fs o).length ≤ unf U fs + fs.length := by
  unfold qpush
  split
  · exact Nat.le_refl _
  · rename_i hc
    have := filter_less h hc
    have e : keys (fs ++ [(o, l + 1)]) = keys fs ++ [o] := by simp
    simp only [unf, e, List.length_append, List.length_cons, List.length_nil]
    omega
theorem qpushes_unf {U : List Int} {l : Int} : ∀ {os : List Int} {fs : Ties}, (∀ o ∈ os, o ∈ U) → unf U (os.foldl (qpush l) fs) + (os.foldl (qpush l) fs).length ≤ unf U fs + fs.length
  | [], fs, _ => Nat.le_refl _
  | o :: os, fs, h => Nat.le_trans (qpushes_unf (os := os) fun x hx => h x (List.mem_cons_of_mem _ hx)) (qpush_unf (h o List.mem_cons_self))
structure Rel8 (ts : Ties) (K : Nat) (d b : D) (s : Ties × Nat) (e : Sb.Env) : Prop where
  env : ∃ t : Slot, t.pin = false ∧ e = [v d, v b, .own false (fD s.1), .own false (.lst ((keys s.1).map .int)), v (.int s.2), t]
  nd : (keys s.1).Nodup
  le : unf (ends ts) s.1 + s.1.length ≤ K
theorem e_qpush {C : Cal} {sub : Nat → Nat → Bool} {wf : Nat} {ts : Ties} {K dn : Nat} {d b : D} {fs : Ties} {e : Sb.Env} {o w l : Int} (hK : K < lim) (ho : o ∈ ends ts) (r : Rel8 ts K d b (fs, dn) e) (hw : fs[dn]? = some (w, l)) :
    ∃ e', turn C sub wf (.nm 5) [.ifs (.val (.op2 .nin (.pk 5) (.pk 2))) [.seti 2 (.pk 5) (.op2 .add (.op2 .idx (.pk 2) (.op2 .idx (.pk 3) (.pk 4))) (.cst (.int 1))), .app 3 (.var 5)] []] (.int o) e = .nxt e' ∧ Rel8 ts K d b (qpush l fs o, dn) e' ∧ (qpush l fs o)[dn]? = some (w, l) := by
  obtain ⟨⟨t, ht, rfl⟩, nd, h1⟩ := r
  have w1 : fs.length < lim := by simp only at h1; omega
  have hx : atD ((keys fs).map .int) (dn : Int) = some (.int w) := by
    rw [atD_nat, List.getElem?_map, List.getElem?_map, hw]; rfl
  have hv : getK ((keys fs).map .int) ((fs.map (·.2)).map .int) w = some (.int l) := by
    rw [getK_map, val_nd nd hw]; rfl
  by_cases hc : o ∈ keys fs
  · have e1 : qpush l fs o = fs := if_pos hc
    rw [e1]
    refine ⟨[v d, v b, .own false (fD fs), .own false (.lst ((keys fs).map .int)), v (.int dn), v (.int o)], ?_, ⟨⟨_, rfl, rfl⟩, nd, h1⟩, hw⟩
    have hn := o_ninD (ks := keys fs) (vs := (fs.map (·.2)).map .int) (x := o)
    rw [decide_eq_true hc] at hn
    simp [turn, ht, fD, -List.map_map, hn]
  · have e1 : qpush l fs o = fs ++ [(o, l + 1)] := if_neg hc
    have q1 := qpush_unf (U := ends ts) (l := l) (fs := fs) ho
    have q2 := qpush_nd (l := l) (o := o) nd
    rw [e1] at q1 q2 ⊢
    have p1 := putK_new (vs := (fs.map (·.2)).map .int) (d := .int (l + 1)) hc
    have hn := o_ninD (ks := keys fs) (vs := (fs.map (·.2)).map .int) (x := o)
    rw [decide_eq_false hc] at hn
    refine ⟨[v d, v b, .own false (fD (fs ++ [(o, l + 1)])), .own false (.lst ((keys (fs ++ [(o, l + 1)])).map .int)), v (.int dn), v (.int o)], ?_, ⟨⟨_, rfl, rfl⟩, q2, Nat.le_trans q1 h1⟩, ?_⟩
    · have k1 : ((keys fs).map D.int).length < lim := by simpa using w1
      have e2 : fD (fs ++ [(o, l + 1)]) = .dct ((keys fs ++ [o]).map .int) ((fs.map (·.2)).map .int ++ [.int (l + 1)]) := by simp [fD]
      have e3 : (keys (fs ++ [(o, l + 1)])).map D.int = (keys fs).map D.int ++ [.int o] := by simp
      rw [e2, e3]
      unfold fD
      generalize (keys fs).map D.int = ks at *
      generalize (fs.map (·.2)).map D.int = vs at *
      simp [turn, ht, hn, hx, hv, p1, k1]
    · have : dn < fs.length := (List.getElem?_eq_some_iff.mp hw).1
      rw [List.getElem?_append_left this]; exact hw
def qlft (U : List Int) (s : Ties × Nat) : Nat := unf U s.1 + (s.1.length - s.2)
theorem qstep_less {ts : Ties} {s s' : Ties × Nat} (h : qstep ts s = some s') : qlft (ends ts) s' < qlft (ends ts) s := by
  unfold qstep at h
  cases q : s.1[s.2]? with
  | none => rw [q] at h; cases h
  | some p =>
    rw [q] at h
    have h := Option.some.inj h
    subst h
    have h1 := qpushes_unf (U := ends ts) (l := p.2) (os := near ts p.1) (fs := s.1) fun o ho => near_ends ho
    have h2 : s.2 < s.1.length := (List.getElem?_eq_some_iff.mp q).1
    obtain ⟨r, e⟩ := qpushes_pre (l := p.2) (os := near ts p.1) (fs := s.1)
    have h3 : s.1.length ≤ ((near ts p.1).foldl (qpush p.2) s.1).length := by rw [e]; simp
    simp only [qlft]
    omega
def q0 (b : Int) : Ties × Nat := ([(b, 0)], 0)
/-- the distances from b, in the order in which they are found -/
def dist (ts : Ties) (b : Int) : Ties := (run (qstep ts) (2 * ts.length + 2) (q0 b)).1
theorem unf0 (ts : Ties) (b : Int) : unf (ends ts) [(b, 0)] ≤ 2 * ts.length := by
  have := List.length_filter_le (fun x => decide (x ∉ keys [(b, (0 : Int))])) (ends ts)
  have h : (ends ts).length = 2 * ts.length := by unfold ends; simp; omega
  unfold unf
  omega
theorem qstep_none {ts : Ties} {s : Ties × Nat} (h : qstep ts s = none) : s.1[s.2]? = none := by
  unfold qstep at h
  cases q : s.1[s.2]? with
  | none => rfl
  | some w => rw [q] at h; cases h
section
variable {T : Nat → Option Def} {sub : Nat → Nat → Bool} {wf n : Nat}
theorem e_dist (hT : Ext T) {d : D} {ts : Ties} {b : Int} (hd : itemsOf d = some (ts.map pD)) (hl : 2 * ts.length + 2 < wf) (hw : wf ≤ lim) :
    callD T sub wf (n + 2) 8 [v d, v (.int b)] = .ok true (fD (dist ts b)) [v d, v (.int b)] ∧ qstep ts (run (qstep ts) (2 * ts.length + 2) (q0 b)) = none := by
  rw [call_eq (hT 8 _ rfl) rfl]
  have hts : ts.length ≤ lim := by omega
  have u0 := unf0 ts b
  have start : Rel8 ts (2 * ts.length + 1) d (.int b) (q0 b) [v d, v (.int b), .own false (fD [(b, 0)]), .own false (.lst [.int b]), v (.int 0), .no] := ⟨⟨.no, rfl, rfl⟩, by simp [q0], by simp only [q0, List.length_cons, List.length_nil]; omega⟩
  obtain ⟨e', q1, ⟨⟨t, ht, q2⟩, _, _⟩, q3⟩ := whl_run (c := evT (callD T sub wf (n + 1)) sub (.val (.op2 .lt (.pk 4) (.op1 .len (.pk 3)))))
    (b := evSs (callD T sub wf (n + 1)) sub wf [.for_ (.seq (.call 2 [.e (.var 0), .e (.op2 .idx (.pk 3) (.pk 4))])) (.nm 5) [.ifs (.val (.op2 .nin (.pk 5) (.pk 2))) [.seti 2 (.pk 5) (.op2 .add (.op2 .idx (.pk 2) (.op2 .idx (.pk 3) (.pk 4))) (.cst (.int 1))), .app 3 (.var 5)] []], .aug 4 (.cst (.int 1))])
    (Rel8 ts (2 * ts.length + 1) d (.int b)) (qstep ts) (qlft (ends ts)) (fun s e r hs => by
      have h2 := qstep_none hs
      obtain ⟨⟨t, ht, rfl⟩, r1, r2⟩ := r
      have h3 : ¬ (s.2 : Int) < s.1.length := by
        have := List.getElem?_eq_none_iff.mp h2
        omega
      simp [h3]) (fun s e s' r hs => by
      refine ⟨qstep_less hs, ?_⟩
      unfold qstep at hs
      cases q : s.1[s.2]? with
      | none => rw [q] at hs; cases hs
      | some p =>
        rw [q] at hs
        have hs := Option.some.inj hs
        subst hs
        obtain ⟨fs, dn⟩ := s
        obtain ⟨w, l⟩ := p
        have hlt : dn < fs.length := (List.getElem?_eq_some_iff.mp q).1
        obtain ⟨e2, z1, ⟨⟨t2, ht2, z2⟩, z3, z4⟩, _⟩ := for_fold (f := turn (callD T sub wf (n + 1)) sub wf (.nm 5) [.ifs (.val (.op2 .nin (.pk 5) (.pk 2))) [.seti 2 (.pk 5) (.op2 .add (.op2 .idx (.pk 2) (.op2 .idx (.pk 3) (.pk 4))) (.cst (.int 1))), .app 3 (.var 5)] []])
          (fun fs e => Rel8 ts (2 * ts.length + 1) d (.int b) (fs, dn) e ∧ fs[dn]? = some (w, l)) (fun fs x => match x with | .int o => qpush l fs o | _ => fs) (xs := (near ts w).map .int) (fun s x e hx r => by
            obtain ⟨o, ho, rfl⟩ := List.mem_map.mp hx
            exact e_qpush (by omega) (near_ends ho) r.1 r.2) ⟨r, q⟩
        rw [List.foldl_map] at z2 z3 z4
        obtain ⟨⟨t, ht, rfl⟩, r1, r2⟩ := r
        refine ⟨?_, [v d, v (.int b), .own false (fD ((near ts w).foldl (qpush l) fs)), .own false (.lst ((keys ((near ts w).foldl (qpush l) fs)).map .int)), v (.int (dn + 1 : Nat)), t2], ?_, ⟨⟨t2, ht2, rfl⟩, z3, z4⟩⟩
        · have h3 : (dn : Int) < fs.length := by omega
          simp [h3]
        · have c2 := e_near (sub := sub) (wf := wf) (n := n) hT (b := w) hd hts
          have hx : atD ((keys fs).map .int) (dn : Int) = some (.int w) := by
            rw [atD_nat, List.getElem?_map, List.getElem?_map, q]; rfl
          have c3 : evI (callD T sub wf (n + 1)) sub (.seq (.call 2 [.e (.var 0), .e (.op2 .idx (.pk 3) (.pk 4))])) [v d, v (.int b), .own false (fD fs), .own false (.lst ((keys fs).map .int)), v (.int dn), t] =
              .ok ((near ts w).map .int) [v d, v (.int b), .own false (fD fs), .own false (.lst ((keys fs).map .int)), v (.int dn), t] := by
            generalize (keys fs).map D.int = ks at *
            simp [hx, c2]
          rw [ev_ss1, ev_for, c3, toS_ok, z1, nxt_bnd, ev_ss1, z2]
          simp) wf (2 * ts.length + 2) (q0 b) _ start (by simp only [qlft, q0, List.length_cons, List.length_nil]; omega) (by simp only [qlft, q0, List.length_cons, List.length_nil]; omega)
  refine ⟨?_, q3⟩
  have e0 : evS (callD T sub wf (n + 1)) sub wf (.par [2, 3, 4] [.d1 (.var 1) (.cst (.int 0)), .lst [.var 1], .cst (.int 0)]) [v d, v (.int b), .no, .no, .no, .no] = .nxt [v d, v (.int b), .own false (fD [(b, 0)]), .own false (.lst [.int b]), v (.int 0), .no] := by
    simp [fD]
  simp only [B.b8, List.cons_append, List.nil_append, List.replicate, ev_ss1, e0, nxt_bnd, ev_whl, q1, q2]
  simp [dist]
end
end M

set_option Elab.async false
set_option linter.all false
set_option maxRecDepth 100000
/-! Distances by levels are the same. -/
namespace M
open PySem Sb
def lpush (k : Int) (s : Ties × List Int) (o : Int) : Ties × List Int := if o ∈ keys s.1 then s else (s.1 ++ [(o, k)], s.2 ++ [o])
def level (ts : Ties) (k : Int) (s : Ties × List Int) (lv : List Int) : Ties × List Int := lv.foldl (fun s one => (near ts one).foldl (lpush k) s) s
abbrev LSt := Ties × List Int × Int
def lstep (ts : Ties) (s : LSt) : Option LSt := match s.2.1 with
  | [] => none
  | _ :: _ => some ((level ts (s.2.2 + 1) (s.1, []) s.2.1).1, (level ts (s.2.2 + 1) (s.1, []) s.2.1).2, s.2.2 + 1)
theorem lpush_q {l : Int} {fs : Ties} {ls : List Int} {o : Int} : (lpush (l + 1) (fs, ls) o).1 = qpush l fs o ∧ ∃ r : List Int, (lpush (l + 1) (fs, ls) o).2 = ls ++ r ∧ qpush l fs o = fs ++ r.map fun x => (x, l + 1) := by
  unfold lpush qpush
  split
  · exact ⟨rfl, [], by simp, by simp⟩
  · exact ⟨rfl, [o], rfl, rfl⟩
theorem lpushes_q {l : Int} : ∀ {os : List Int} {fs : Ties} {ls : List Int}, (os.foldl (lpush (l + 1)) (fs, ls)).1 = os.foldl (qpush l) fs ∧ ∃ r : List Int, (os.foldl (lpush (l + 1)) (fs, ls)).2 = ls ++ r ∧ os.foldl (qpush l) fs = fs ++ r.map fun x => (x, l + 1)
  | [], fs, ls => ⟨rfl, [], by simp, by simp⟩
  | o :: os, fs, ls => by
    obtain ⟨h1, r, h2, h3⟩ := lpush_q (l := l) (fs := fs) (ls := ls) (o := o)
    have e : lpush (l + 1) (fs, ls) o = (qpush l fs o, ls ++ r) := Prod.ext h1 h2
    obtain ⟨k1, r2, k2, k3⟩ := lpushes_q (l := l) (os := os) (fs := qpush l fs o) (ls := ls ++ r)
    rw [List.foldl_cons, List.foldl_cons, e]
    exact ⟨k1, r ++ r2, by rw [k2, List.append_assoc], by rw [k3, h3, List.append_assoc, List.map_append]⟩
theorem run_add {σ : Type} {step : σ → Option σ} : ∀ {j k : Nat} {s : σ}, run step (j + k) s = run step k (run step j s)
  | 0, k, s => by rw [Nat.zero_add]; rfl
  | j + 1, k, s => by
    rw [show j + 1 + k = (j + k) + 1 by omega, run, run]
    cases h : step s with
    | none =>
      cases k with
      | zero => rfl
      | succ k => simp only; rw [run, h]
    | some s' => exact run_add
theorem run_none {σ : Type} {step : σ → Option σ} {s : σ} (h : step s = none) : ∀ k, run step k s = s
  | 0 => rfl
  | k + 1 => by rw [run, h]
theorem run_uniq {σ : Type} {step : σ → Option σ} {s : σ} {j k : Nat} (h1 : step (run step j s) = none) (h2 : step (run step k s) = none) : run step j s = run step k s := by
  have a : run step (j + k) s = run step j s := by rw [run_add, run_none h1]
  have b : run step (k + j) s = run step k s := by rw [run_add, run_none h2]
  rw [← a, Nat.add_comm, b]
/-- a level's turns by the row -/
theorem q_level {ts : Ties} {l : Int} : ∀ {lv : List Int} {fs : Ties} {ls : List Int} {dn : Nat}, fs.drop dn = lv.map (fun x => (x, l)) ++ ls.map (fun x => (x, l + 1)) → dn + lv.length ≤ fs.length →
    run (qstep ts) lv.length (fs, dn) = ((level ts (l + 1) (fs, ls) lv).1, dn + lv.length) ∧ (level ts (l + 1) (fs, ls) lv).1.drop (dn + lv.length) = (level ts (l + 1) (fs, ls) lv).2.map (fun x => (x, l + 1)) ∧ dn + lv.length ≤ (level ts (l + 1) (fs, ls) lv).1.length
  | [], fs, ls, dn, h, h2 => by
    simp only [List.map_nil, List.nil_append] at h
    exact ⟨rfl, by simpa [level] using h, by simpa [level] using h2⟩
  | w :: lv, fs, ls, dn, h, h2 => by
    simp only [List.map_cons, List.cons_append, List.length_cons] at h h2
    have hg : fs[dn]? = some (w, l) := by
      have := congrArg (fun z => z[0]?) h
      simpa using this
    obtain ⟨k1, r, k2, k3⟩ := lpushes_q (l := l) (os := near ts w) (fs := fs) (ls := ls)
    have e : (near ts w).foldl (lpush (l + 1)) (fs, ls) = ((near ts w).foldl (qpush l) fs, ls ++ r) := Prod.ext k1 k2
    have hlev : level ts (l + 1) (fs, ls) (w :: lv) = level ts (l + 1) ((near ts w).foldl (qpush l) fs, ls ++ r) lv := by
      unfold level; rw [List.foldl_cons, e]
    have hd : ((near ts w).foldl (qpush l) fs).drop (dn + 1) = lv.map (fun x => (x, l)) ++ (ls ++ r).map fun x => (x, l + 1) := by
      rw [k3, List.drop_append_of_le_length (by omega), ← List.drop_drop, h]
      simp
    have ih := q_level (ts := ts) (l := l) (lv := lv) (fs := (near ts w).foldl (qpush l) fs) (ls := ls ++ r) (dn := dn + 1) hd (by rw [k3, List.length_append]; omega)
    have st : qstep ts (fs, dn) = some ((near ts w).foldl (qpush l) fs, dn + 1) := by unfold qstep; rw [hg]
    rw [hlev, List.length_cons, show dn + (lv.length + 1) = dn + 1 + lv.length by omega]
    refine ⟨?_, ih.2⟩
    rw [run, st]
    exact ih.1
/-- all levels -/
theorem q_levels {ts : Ties} : ∀ (K : Nat) {fs : Ties} {lv : List Int} {l : Int} {dn : Nat}, fs.drop dn = lv.map (fun x => (x, l)) → dn + lv.length ≤ fs.length → lstep ts (run (lstep ts) K (fs, lv, l)) = none →
    ∃ j dn', run (qstep ts) j (fs, dn) = ((run (lstep ts) K (fs, lv, l)).1, dn') ∧ qstep ts ((run (lstep ts) K (fs, lv, l)).1, dn') = none
  | K, fs, [], l, dn, h, h2, _ => by
    have e : run (lstep ts) K (fs, [], l) = (fs, [], l) := run_none rfl K
    rw [e]
    refine ⟨0, dn, rfl, ?_⟩
    have : fs[dn]? = none := by
      have := congrArg (fun z => z[0]?) h
      simpa using this
    unfold qstep
    rw [this]
  | 0, fs, w :: lv, l, dn, h, h2, h3 => by cases h3
  | K + 1, fs, w :: lv, l, dn, h, h2, h3 => by
    obtain ⟨a1, a2, a3⟩ := q_level (ts := ts) (l := l) (lv := w :: lv) (fs := fs) (ls := []) (dn := dn) (by simpa using h) h2
    have st : lstep ts (fs, w :: lv, l) = some ((level ts (l + 1) (fs, []) (w :: lv)).1, (level ts (l + 1) (fs, []) (w :: lv)).2, l + 1) := rfl
    rw [run, st] at h3 ⊢
    simp only at h3 ⊢
    have a4 : dn + (w :: lv).length + (level ts (l + 1) (fs, []) (w :: lv)).2.length ≤ (level ts (l + 1) (fs, []) (w :: lv)).1.length := by
      have := congrArg List.length a2
      rw [List.length_drop, List.length_map] at this
      omega
    obtain ⟨j, dn', b1, b2⟩ := q_levels K (fs := (level ts (l + 1) (fs, []) (w :: lv)).1) (lv := (level ts (l + 1) (fs, []) (w :: lv)).2) (l := l + 1) (dn := dn + (w :: lv).length) a2 a4 h3
    exact ⟨(w :: lv).length + j, dn', by rw [run_add, a1]; exact b1, b2⟩
def far (ts : Ties) (b : Int) : Ties := (run (lstep ts) (2 * ts.length + 2) ([(b, 0)], [b], 0)).1
theorem far_dist {ts : Ties} {b : Int} (h1 : lstep ts (run (lstep ts) (2 * ts.length + 2) ([(b, 0)], [b], 0)) = none) (h2 : qstep ts (run (qstep ts) (2 * ts.length + 2) (q0 b)) = none) : far ts b = dist ts b := by
  obtain ⟨j, dn', a1, a2⟩ := q_levels (ts := ts) (2 * ts.length + 2) (fs := [(b, 0)]) (lv := [b]) (l := 0) (dn := 0) rfl (by simp) h1
  have a3 : run (qstep ts) j (q0 b) = (far ts b, dn') := a1
  have a4 := run_uniq (step := qstep ts) (s := q0 b) (j := j) (k := 2 * ts.length + 2) (by rw [a3]; exact a2) h2
  rw [a3] at a4
  exact congrArg Prod.fst a4
theorem level_unf {ts : Ties} {l : Int} : ∀ {lv : List Int} {fs : Ties} {ls : List Int}, unf (ends ts) (level ts (l + 1) (fs, ls) lv).1 + (level ts (l + 1) (fs, ls) lv).1.length ≤ unf (ends ts) fs + fs.length ∧ fs.length + (level ts (l + 1) (fs, ls) lv).2.length = (level ts (l + 1) (fs, ls) lv).1.length + ls.length
  | [], fs, ls => ⟨Nat.le_refl _, by simp [level]⟩
  | w :: lv, fs, ls => by
    obtain ⟨k1, r, k2, k3⟩ := lpushes_q (l := l) (os := near ts w) (fs := fs) (ls := ls)
    have e : (near ts w).foldl (lpush (l + 1)) (fs, ls) = ((near ts w).foldl (qpush l) fs, ls ++ r) := Prod.ext k1 k2
    have hlev : level ts (l + 1) (fs, ls) (w :: lv) = level ts (l + 1) ((near ts w).foldl (qpush l) fs, ls ++ r) lv := by
      unfold level; rw [List.foldl_cons, e]
    rw [hlev]
    have ih := level_unf (ts := ts) (l := l) (lv := lv) (fs := (near ts w).foldl (qpush l) fs) (ls := ls ++ r)
    have q := qpushes_unf (U := ends ts) (l := l) (os := near ts w) (fs := fs) fun o ho => near_ends ho
    have q2 := congrArg List.length k3
    rw [List.length_append, List.length_map] at q2
    rw [List.length_append] at ih
    omega
def llft (U : List Int) (s : LSt) : Nat := unf U s.1 + (if s.2.1 = [] then 0 else 1)
theorem lstep_less {ts : Ties} {s s' : LSt} (h : lstep ts s = some s') : llft (ends ts) s' < llft (ends ts) s := by
  obtain ⟨fs, lv, l⟩ := s
  cases lv with
  | nil => cases h
  | cons w lv =>
    have h : some ((level ts (l + 1) (fs, []) (w :: lv)).1, (level ts (l + 1) (fs, []) (w :: lv)).2, l + 1) = some s' := h
    have h := Option.some.inj h
    subst h
    have := level_unf (ts := ts) (l := l) (lv := w :: lv) (fs := fs) (ls := [])
    simp only [llft, List.length_nil] at this ⊢
    rw [if_neg (by simp : ¬ (w :: lv) = [])]
    by_cases he : (level ts (l + 1) (fs, []) (w :: lv)).2 = []
    · have h0 := congrArg List.length he
      rw [if_pos he]
      simp only [List.length_nil] at h0
      omega
    · rw [if_neg he]
      have : (level ts (l + 1) (fs, []) (w :: lv)).2.length ≠ 0 := fun z => he (List.length_eq_zero_iff.mp z)
      omega
structure Rel25 (ts : Ties) (K : Nat) (d b : D) (s : LSt) (e : Sb.Env) : Prop where
  env : ∃ (t3 t5 t6 t7 : Slot), (t3 = .own false (.lst (s.2.1.map .int)) ∨ t3 = .shr false (.lst (s.2.1.map .int))) ∧ t5.pin = false ∧ t6.pin = false ∧ t7.pin = false ∧ e = [v d, v b, .own false (fD s.1), t3, v (.int s.2.2), t5, t6, t7]
  nd : (keys s.1).Nodup
  le : unf (ends ts) s.1 + s.1.length ≤ K
/-- within a level -/
structure RelIn (ts : Ties) (K : Nat) (d b : D) (lv : List Int) (k : Int) (s : Ties × List Int) (e : Sb.Env) : Prop where
  env : ∃ (t6 t7 : Slot), t6.pin = false ∧ t7.pin = false ∧ e = [v d, v b, .own false (fD s.1), v (.lst (lv.map .int)), v (.int k), .own false (.lst (s.2.map .int)), t6, t7]
  nd : (keys s.1).Nodup
  le : unf (ends ts) s.1 + s.1.length ≤ K
  ln : s.2.length ≤ s.1.length
theorem lpush_nd {k : Int} {s : Ties × List Int} {o : Int} (nd : (keys s.1).Nodup) : (keys (lpush k s o).1).Nodup := by
  obtain ⟨fs, ls⟩ := s
  have := (lpush_q (l := k - 1) (fs := fs) (ls := ls) (o := o)).1
  rw [show k - 1 + 1 = k by omega] at this
  rw [this]
  exact qpush_nd nd
theorem e_lpush {C : Cal} {sub : Nat → Nat → Bool} {wf : Nat} {ts : Ties} {K : Nat} {d b : D} {lv : List Int} {k : Int} {s : Ties × List Int} {e : Sb.Env} {o : Int} (hK : K < lim) (ho : o ∈ ends ts) (r : RelIn ts K d b lv k s e) :
    ∃ e', turn C sub wf (.nm 7) [.ifs (.val (.op2 .nin (.pk 7) (.pk 2))) [.seti 2 (.pk 7) (.var 4), .app 5 (.var 7)] []] (.int o) e = .nxt e' ∧ RelIn ts K d b lv k (lpush k s o) e' := by
  obtain ⟨⟨t6, t7, h6, h7, rfl⟩, nd, h1, h2⟩ := r
  obtain ⟨fs, ls⟩ := s
  simp only at h1 h2
  have w1 : fs.length < lim := by omega
  have w2 : ls.length < lim := by omega
  by_cases hc : o ∈ keys fs
  · have e1 : lpush k (fs, ls) o = (fs, ls) := if_pos hc
    rw [e1]
    refine ⟨[v d, v b, .own false (fD fs), v (.lst (lv.map .int)), v (.int k), .own false (.lst (ls.map .int)), t6, v (.int o)], ?_, ⟨⟨_, _, h6, rfl, rfl⟩, nd, h1, h2⟩⟩
    have hn := o_ninD (ks := keys fs) (vs := (fs.map (·.2)).map .int) (x := o)
    rw [decide_eq_true hc] at hn
    simp [turn, h7, fD, -List.map_map, hn]
  · have e1 : lpush k (fs, ls) o = (fs ++ [(o, k)], ls ++ [o]) := if_neg hc
    have q1 := qpush_unf (U := ends ts) (l := k - 1) (fs := fs) ho
    have q2 := lpush_nd (k := k) (s := (fs, ls)) (o := o) nd
    have e4 : qpush (k - 1) fs o = fs ++ [(o, k)] := by unfold qpush; rw [if_neg hc, show k - 1 + 1 = k by omega]
    rw [e4] at q1
    rw [e1] at q2 ⊢
    have p1 := putK_new (vs := (fs.map (·.2)).map .int) (d := .int k) hc
    have hn := o_ninD (ks := keys fs) (vs := (fs.map (·.2)).map .int) (x := o)
    rw [decide_eq_false hc] at hn
    refine ⟨[v d, v b, .own false (fD (fs ++ [(o, k)])), v (.lst (lv.map .int)), v (.int k), .own false (.lst ((ls ++ [o]).map .int)), t6, v (.int o)], ?_, ⟨⟨_, _, h6, rfl, rfl⟩, q2, Nat.le_trans q1 h1, by simp; omega⟩⟩
    have k1 : ((keys fs).map D.int).length < lim := by simpa using w1
    have e2 : fD (fs ++ [(o, k)]) = .dct ((keys fs ++ [o]).map .int) ((fs.map (·.2)).map .int ++ [.int k]) := by simp [fD]
    rw [e2]
    unfold fD
    generalize (keys fs).map D.int = ks at *
    generalize (fs.map (·.2)).map D.int = vs at *
    simp [turn, h7, hn, p1, k1, w2]
section
variable {T : Nat → Option Def} {sub : Nat → Nat → Bool} {wf n : Nat}
theorem e_far (hT : Ext T) {d x : D} {ts : Ties} {b : Int} (hd : d = .tup [x, .tup (ts.map pD)]) (hl : 2 * ts.length + 2 < wf) (hw : wf ≤ lim) (hne : ∀ p ∈ ts, p.1 ≠ p.2) :
    callD T sub wf (n + 2) 25 [v d, v (.int b)] = .ok true (fD (far ts b)) [v d, v (.int b)] ∧ lstep ts (run (lstep ts) (2 * ts.length + 2) ([(b, 0)], [b], 0)) = none := by
  subst hd
  rw [call_eq (hT 25 _ rfl) rfl]
  have u0 := unf0 ts b
  obtain ⟨d, hd⟩ : ∃ d, d = D.tup [x, .tup (ts.map pD)] := ⟨_, rfl⟩
  have start : Rel25 ts (2 * ts.length + 1) d (.int b) ([(b, 0)], [b], 0) [v d, v (.int b), .own false (fD [(b, 0)]), .own false (.lst [.int b]), v (.int 0), .no, .no, .no] := ⟨⟨_, .no, .no, .no, .inl rfl, rfl, rfl, rfl, rfl⟩, by simp, by simp only [List.length_cons, List.length_nil]; omega⟩
  obtain ⟨e', q1, ⟨⟨t3, t5, t6, t7, _, _, _, _, q2⟩, _, _⟩, q3⟩ := whl_run (c := evT (callD T sub wf (n + 1)) sub (.val (.op2 .ne (.pk 3) (.lst []))))
    (b := evSs (callD T sub wf (n + 1)) sub wf [.par [4, 5] [.op2 .add (.pk 4) (.cst (.int 1)), .lst []],
      .for_ (.seq (.var 3)) (.nm 6) [.for_ (.seq (.call 17 [.e (.op2 .idx (.pk 0) (.cst (.int 1))), .e (.var 6)])) (.nm 7) [.ifs (.val (.op2 .nin (.pk 7) (.pk 2))) [.seti 2 (.pk 7) (.var 4), .app 5 (.var 7)] []]], .asg 3 (.var 5)])
    (Rel25 ts (2 * ts.length + 1) d (.int b)) (lstep ts) (llft (ends ts)) (fun s e r hs => by
      obtain ⟨fs, lv, l⟩ := s
      obtain ⟨⟨t3, t5, t6, t7, h3, h5, h6, h7, rfl⟩, r1, r2⟩ := r
      cases lv with
      | cons _ _ => cases hs
      | nil => rcases h3 with rfl | rfl <;> simp) (fun s e s' r hs => by
      refine ⟨lstep_less hs, ?_⟩
      obtain ⟨fs, lv, l⟩ := s
      cases lv with
      | nil => cases hs
      | cons w lv =>
      have hs : some ((level ts (l + 1) (fs, []) (w :: lv)).1, (level ts (l + 1) (fs, []) (w :: lv)).2, l + 1) = some s' := hs
      have hs := Option.some.inj hs
      subst hs
      obtain ⟨LV, hLV⟩ : ∃ LV, LV = w :: lv := ⟨_, rfl⟩
      rw [← hLV] at r ⊢
      have hne0 : LV.isEmpty = false := by rw [hLV]; rfl
      have ask := r
      obtain ⟨⟨t3, t5, t6, t7, h3, h5, h6, h7, rfl⟩, r1, r2⟩ := r
      simp only at r1 r2 h3
      have mid : RelIn ts (2 * ts.length + 1) d (.int b) LV (l + 1) (fs, []) [v d, v (.int b), .own false (fD fs), v (.lst (LV.map .int)), v (.int (l + 1)), .own false (.lst []), t6, t7] := ⟨⟨t6, t7, h6, h7, rfl⟩, r1, r2, by simp⟩
      obtain ⟨e2, z1, ⟨⟨s6, s7, k6, k7, z2⟩, z3, z4, z5⟩⟩ := for_fold (f := turn (callD T sub wf (n + 1)) sub wf (.nm 6) [.for_ (.seq (.call 17 [.e (.op2 .idx (.pk 0) (.cst (.int 1))), .e (.var 6)])) (.nm 7) [.ifs (.val (.op2 .nin (.pk 7) (.pk 2))) [.seti 2 (.pk 7) (.var 4), .app 5 (.var 7)] []]])
        (RelIn ts (2 * ts.length + 1) d (.int b) LV (l + 1)) (fun s x => match x with | .int one => (near ts one).foldl (lpush (l + 1)) s | _ => s) (xs := LV.map .int) (fun s x e hx r => by
          obtain ⟨one, _, rfl⟩ := List.mem_map.mp hx
          obtain ⟨⟨t6, t7, h6, h7, rfl⟩, m1, m2, m3⟩ := r
          have start2 : RelIn ts (2 * ts.length + 1) d (.int b) LV (l + 1) s [v d, v (.int b), .own false (fD s.1), v (.lst (LV.map .int)), v (.int (l + 1)), .own false (.lst (s.2.map .int)), v (.int one), t7] := ⟨⟨_, t7, rfl, h7, rfl⟩, m1, m2, m3⟩
          obtain ⟨e3, y1, y2⟩ := for_fold (f := turn (callD T sub wf (n + 1)) sub wf (.nm 7) [.ifs (.val (.op2 .nin (.pk 7) (.pk 2))) [.seti 2 (.pk 7) (.var 4), .app 5 (.var 7)] []])
            (RelIn ts (2 * ts.length + 1) d (.int b) LV (l + 1)) (fun s x => match x with | .int o => lpush (l + 1) s o | _ => s) (xs := (near ts one).map .int) (fun s x e hx r => by
              obtain ⟨o, ho, rfl⟩ := List.mem_map.mp hx
              exact e_lpush (by omega) (near_ends ho) r) start2
          rw [List.foldl_map] at y2
          refine ⟨e3, ?_, y2⟩
          have c2 := e_near2 (sub := sub) (wf := wf) (n := n) hT (b := one) (d := .tup (ts.map pD)) (ts := ts) rfl (by omega) hne
          have c3 : evI (callD T sub wf (n + 1)) sub (.seq (.call 17 [.e (.op2 .idx (.pk 0) (.cst (.int 1))), .e (.var 6)])) [v d, v (.int b), .own false (fD s.1), v (.lst (LV.map .int)), v (.int (l + 1)), .own false (.lst (s.2.map .int)), v (.int one), t7] =
              .ok ((near ts one).map .int) [v d, v (.int b), .own false (fD s.1), v (.lst (LV.map .int)), v (.int (l + 1)), .own false (.lst (s.2.map .int)), v (.int one), t7] := by
            subst hd
            simp [c2]
          show optB (asgT (.nm 6) (.int one) _) _ = _
          rw [show asgT (.nm 6) (.int one) [v d, v (.int b), .own false (fD s.1), v (.lst (LV.map .int)), v (.int (l + 1)), .own false (.lst (s.2.map .int)), t6, t7] = some [v d, v (.int b), .own false (fD s.1), v (.lst (LV.map .int)), v (.int (l + 1)), .own false (.lst (s.2.map .int)), v (.int one), t7] by simp [h6], optB_some, ev_ss1, ev_for, c3, toS_ok, y1, nxt_bnd, ev_ss0]) mid
      rw [List.foldl_map] at z2 z3 z4 z5
      refine ⟨?_, [v d, v (.int b), .own false (fD (level ts (l + 1) (fs, []) LV).1), v (.lst ((level ts (l + 1) (fs, []) LV).2.map .int)), v (.int (l + 1)), v (.lst ((level ts (l + 1) (fs, []) LV).2.map .int)), s6, s7], ?_, ⟨⟨_, _, s6, s7, .inr rfl, rfl, k6, k7, rfl⟩, z3, z4⟩⟩
      · rcases h3 with rfl | rfl <;> simp [hne0]
      · have c1 : evS (callD T sub wf (n + 1)) sub wf (.par [4, 5] [.op2 .add (.pk 4) (.cst (.int 1)), .lst []]) [v d, v (.int b), .own false (fD fs), t3, v (.int l), t5, t6, t7] = .nxt [v d, v (.int b), .own false (fD fs), t3, v (.int (l + 1)), .own false (.lst []), t6, t7] := by
          simp [h5]
        have c2 : evI (callD T sub wf (n + 1)) sub (.seq (.var 3)) [v d, v (.int b), .own false (fD fs), t3, v (.int (l + 1)), .own false (.lst []), t6, t7] = .ok (LV.map .int) [v d, v (.int b), .own false (fD fs), v (.lst (LV.map .int)), v (.int (l + 1)), .own false (.lst []), t6, t7] := by
          rcases h3 with rfl | rfl <;> simp
        rw [ev_ss1, c1, nxt_bnd, ev_ss1, ev_for, c2, toS_ok, z1, nxt_bnd, ev_ss1, z2]
        simp [level]) wf (2 * ts.length + 2) ([(b, 0)], [b], 0) _ start (by simp only [llft]; split <;> omega) (by simp only [llft]; split <;> omega)
  refine ⟨?_, q3⟩
  have e0 : evS (callD T sub wf (n + 1)) sub wf (.par [2, 3, 4] [.d1 (.var 1) (.cst (.int 0)), .lst [.var 1], .cst (.int 0)]) [v d, v (.int b), .no, .no, .no, .no, .no, .no] = .nxt [v d, v (.int b), .own false (fD [(b, 0)]), .own false (.lst [.int b]), v (.int 0), .no, .no, .no] := by
    simp [fD]
  rw [← hd]
  simp only [B.b25, List.cons_append, List.nil_append, List.replicate, ev_ss1, e0, nxt_bnd, ev_whl, q1, q2]
  simp [far]
end
end M

set_option Elab.async false
set_option linter.all false
set_option maxRecDepth 100000
/-! What is known of distances in a web. -/
namespace M
open PySem Sb
theorem run_inv {σ : Type} {step : σ → Option σ} (P : σ → Prop) (h : ∀ s s', step s = some s' → P s → P s') : ∀ (k : Nat) {s : σ}, P s → P (run step k s)
  | 0, _, p => p
  | k + 1, s, p => by
    rw [run]
    cases q : step s with
    | none => exact p
    | some s' => exact run_inv P h k (h s s' q p)
theorem foldl_inv {α β : Type} {f : β → α → β} (P : β → Prop) : ∀ {l : List α} {b : β}, (∀ b a, a ∈ l → P b → P (f b a)) → P b → P (l.foldl f b)
  | [], _, _, p => p
  | a :: l, b, h, p => foldl_inv P (l := l) (fun b x hx => h b x (List.mem_cons_of_mem _ hx)) (h b a List.mem_cons_self p)
/-! ### reach -/
theorem reach_ind {ts : Ties} {b : Int} {bar : Option Int} (P : Int → Prop) (h0 : P b) (h : ∀ x, P x → ∀ o ∈ near ts x, bar ≠ some o → P o) : ∀ x ∈ reach ts b bar, P x := by
  have key := run_inv (step := dstep ts bar) (fun s : St2 => (∀ x ∈ s.1, P x) ∧ ∀ x ∈ s.2, P x) (fun s s' e ⟨p1, p2⟩ => by
    unfold dstep at e
    cases q : s.2.getLast? with
    | none => rw [q] at e; cases e
    | some w =>
      rw [q] at e
      have e := Option.some.inj e
      subst e
      have hw : P w := p2 w (List.mem_of_getLast? q)
      refine foldl_inv (fun s : St2 => (∀ x ∈ s.1, P x) ∧ ∀ x ∈ s.2, P x) (fun s o ho ⟨a1, a2⟩ => ?_) ⟨p1, fun x hx => p2 x (List.dropLast_subset _ hx)⟩
      unfold push
      split
      · exact ⟨a1, a2⟩
      · rename_i hc
        have po : P o := h w hw o ho fun z => hc (.inr z)
        refine ⟨fun x hx => ?_, fun x hx => ?_⟩ <;> (rcases List.mem_append.mp hx with z | z)
        · exact a1 x z
        · simp at z; rw [z]; exact po
        · exact a2 x z
        · simp at z; rw [z]; exact po) (2 * ts.length + 2) (s := ([b], [b])) ⟨by simpa using h0, by simpa using h0⟩
  exact key.1
theorem nd_snoc {l : List Int} {o : Int} (nd : l.Nodup) (h : o ∉ l) : (l ++ [o]).Nodup :=
  List.nodup_append.mpr ⟨nd, by simp, fun a ha b hb e => h (by rw [List.mem_singleton] at hb; rw [← hb, ← e]; exact ha)⟩
/-- what has been walked from is closed -/
theorem reach_closed {ts : Ties} {b : Int} : (reach ts b none).Nodup ∧ b ∈ reach ts b none ∧ (dstep ts none (run (dstep ts none) (2 * ts.length + 2) ([b], [b])) = none → ∀ x ∈ reach ts b none, ∀ o ∈ near ts x, o ∈ reach ts b none) := by
  have key := run_inv (step := dstep ts none) (fun s : St2 => s.1.Nodup ∧ b ∈ s.1 ∧ ∀ x ∈ s.1, x ∈ s.2 ∨ ∀ o ∈ near ts x, o ∈ s.1) (fun s s' e ⟨p1, p2, p3⟩ => by
    unfold dstep at e
    cases q : s.2.getLast? with
    | none => rw [q] at e; cases e
    | some w =>
      rw [q] at e
      have e := Option.some.inj e
      subst e
      have step : ∀ (os : List Int) (s : St2), s.1.Nodup → b ∈ s.1 → let r := os.foldl (push none) s; r.1.Nodup ∧ b ∈ r.1 ∧ (∀ x ∈ s.1, x ∈ r.1) ∧ (∀ x ∈ s.2, x ∈ r.2) ∧ (∀ x ∈ r.1, x ∈ s.1 ∨ x ∈ r.2) ∧ ∀ o ∈ os, o ∈ r.1 := by
        intro os
        induction os with
        | nil => intro s h1 h2; exact ⟨h1, h2, fun _ z => z, fun _ z => z, fun _ z => .inl z, fun _ z => nomatch z⟩
        | cons o os ih =>
          intro s h1 h2
          have hp : (push none s o).1.Nodup ∧ b ∈ (push none s o).1 ∧ (∀ x ∈ s.1, x ∈ (push none s o).1) ∧ (∀ x ∈ s.2, x ∈ (push none s o).2) ∧ (∀ x ∈ (push none s o).1, x ∈ s.1 ∨ x ∈ (push none s o).2) ∧ o ∈ (push none s o).1 := by
            unfold push
            split
            · rename_i hc
              have ho : o ∈ s.1 := hc.resolve_right (by simp)
              exact ⟨h1, h2, fun _ z => z, fun _ z => z, fun _ z => .inl z, ho⟩
            · rename_i hc
              have ho : o ∉ s.1 := fun z => hc (.inl z)
              refine ⟨nd_snoc h1 ho, List.mem_append_left _ h2, fun x z => List.mem_append_left _ z, fun x z => List.mem_append_left _ z, fun x z => ?_, by simp⟩
              rcases List.mem_append.mp z with z | z
              · exact .inl z
              · exact .inr (List.mem_append_right _ z)
          obtain ⟨a1, a2, a3, a4, a5, a6⟩ := hp
          obtain ⟨b1, b2, b3, b4, b5, b6⟩ := ih (push none s o) a1 a2
          refine ⟨b1, b2, fun x z => b3 x (a3 x z), fun x z => b4 x (a4 x z), fun x z => ?_, fun x z => ?_⟩
          · rcases b5 x z with y | y
            · rcases a5 x y with u | u
              · exact .inl u
              · exact .inr (b4 x u)
            · exact .inr y
          · rcases List.mem_cons.mp z with e | e
            · rw [e]; exact b3 o a6
            · exact b6 x e
      obtain ⟨c1, c2, c3, c4, c5, c6⟩ := step (near ts w) (s.1, s.2.dropLast) p1 p2
      refine ⟨c1, c2, fun x hx => ?_⟩
      rcases c5 x hx with z | z
      · rcases p3 x z with y | y
        · have hs : s.2 = s.2.dropLast ++ [w] := by obtain ⟨ys, hy⟩ := List.getLast?_eq_some_iff.mp q; rw [hy, List.dropLast_concat]
          rw [hs] at y
          rcases List.mem_append.mp y with u | u
          · exact .inl (c4 x u)
          · have : x = w := by simpa using u
            subst this
            exact .inr c6
        · exact .inr fun o ho => c3 o (y o ho)
      · exact .inl z) (2 * ts.length + 2) (s := ([b], [b])) ⟨by simp, by simp, by simp⟩
  refine ⟨key.1, key.2.1, fun hn x hx => ?_⟩
  have h2 := dstep_none hn
  rcases key.2.2 x hx with z | z
  · rw [h2] at z; cases z
  · exact z
/-! ### dist -/
structure DistOk (ts : Ties) (b : Int) (fs : Ties) : Prop where
  nd : (keys fs).Nodup
  first : (b, 0) ∈ fs
  par : ∀ p ∈ fs, p = (b, 0) ∨ (1 ≤ p.2 ∧ ∃ q ∈ fs, q.1 ∈ near ts p.1 ∧ q.2 = p.2 - 1)
  closed : ∀ p ∈ fs, ∀ o ∈ near ts p.1, o ∈ keys fs
theorem dist_ok {ts : Ties} {b : Int} (hn : qstep ts (run (qstep ts) (2 * ts.length + 2) (q0 b)) = none) : DistOk ts b (dist ts b) := by
  have one : ∀ p, p ∈ (q0 b).1 → p = (b, 0) := fun p hp => by simpa [q0] using hp
  have start : (keys (q0 b).1).Nodup ∧ (b, 0) ∈ (q0 b).1 ∧ (∀ p ∈ (q0 b).1, p = (b, 0) ∨ (1 ≤ p.2 ∧ ∃ q ∈ (q0 b).1, q.1 ∈ near ts p.1 ∧ q.2 = p.2 - 1)) ∧ (∀ p ∈ (q0 b).1, 0 ≤ p.2) ∧ ∀ i p, i < (q0 b).2 → (q0 b).1[i]? = some p → ∀ o ∈ near ts p.1, o ∈ keys (q0 b).1 := by
    refine ⟨by simp [q0], by simp [q0], fun p hp => .inl (one p hp), fun p hp => ?_, fun i p hi => ?_⟩
    · rw [one p hp]; simp
    · simp [q0] at hi
  have key := run_inv (step := qstep ts) (fun s : Ties × Nat => (keys s.1).Nodup ∧ (b, 0) ∈ s.1 ∧ (∀ p ∈ s.1, p = (b, 0) ∨ (1 ≤ p.2 ∧ ∃ q ∈ s.1, q.1 ∈ near ts p.1 ∧ q.2 = p.2 - 1)) ∧ (∀ p ∈ s.1, 0 ≤ p.2) ∧ ∀ i p, i < s.2 → s.1[i]? = some p → ∀ o ∈ near ts p.1, o ∈ keys s.1) (fun s s' e ⟨p1, p2, p3, p4, p5⟩ => by
    unfold qstep at e
    cases q : s.1[s.2]? with
    | none => rw [q] at e; cases e
    | some w =>
      rw [q] at e
      have e := Option.some.inj e
      subst e
      obtain ⟨fs, dn⟩ := s
      simp only at p1 p2 p3 p4 p5 q ⊢
      have hw : w ∈ fs := List.mem_of_getElem? q
      have step := foldl_inv (f := qpush w.2) (l := near ts w.1) (fun gs : Ties => (keys gs).Nodup ∧ (∃ r, gs = fs ++ r) ∧ (∀ p ∈ gs, p = (b, 0) ∨ (1 ≤ p.2 ∧ ∃ q ∈ gs, q.1 ∈ near ts p.1 ∧ q.2 = p.2 - 1)) ∧ (∀ p ∈ gs, 0 ≤ p.2)) (b := fs) (fun gs o ho ⟨g1, ⟨r, g2⟩, g3, g4⟩ => by
        refine ⟨qpush_nd g1, ?_, ?_, ?_⟩
        · obtain ⟨r2, e2⟩ := qpush_pre (l := w.2) (fs := gs) (o := o)
          exact ⟨r ++ r2, by rw [e2, g2, List.append_assoc]⟩
        · unfold qpush
          split
          · exact g3
          · intro p hp
            rcases List.mem_append.mp hp with z | z
            · rcases g3 p z with y | ⟨y1, q, y2, y3⟩
              · exact .inl y
              · exact .inr ⟨y1, q, List.mem_append_left _ y2, y3⟩
            · have : p = (o, w.2 + 1) := by simpa using z
              subst this
              have := p4 w hw
              exact .inr ⟨by simp only; omega, w, List.mem_append_left _ (by rw [g2]; exact List.mem_append_left _ hw), near_symm.mp ho, by simp⟩
        · unfold qpush
          split
          · exact g4
          · intro p hp
            rcases List.mem_append.mp hp with z | z
            · exact g4 p z
            · have : p = (o, w.2 + 1) := by simpa using z
              subst this
              have := p4 w hw
              simp only; omega) ⟨p1, ⟨[], by simp⟩, p3, p4⟩
      obtain ⟨s1, ⟨r, s2⟩, s3, s4⟩ := step
      have has : ∀ (os : List Int) (gs : Ties), (∀ x ∈ keys gs, x ∈ keys (os.foldl (qpush w.2) gs)) ∧ ∀ o ∈ os, o ∈ keys (os.foldl (qpush w.2) gs) := by
        intro os
        induction os with
        | nil => intro gs; exact ⟨fun _ z => z, fun _ z => nomatch z⟩
        | cons o os ih =>
          intro gs
          have h1 : (∀ x ∈ keys gs, x ∈ keys (qpush w.2 gs o)) ∧ o ∈ keys (qpush w.2 gs o) := by
            unfold qpush
            split
            · rename_i h; exact ⟨fun _ z => z, h⟩
            · exact ⟨fun x z => by simp only [keys, List.map_append]; exact List.mem_append_left _ z, by simp⟩
          obtain ⟨i1, i2⟩ := ih (qpush w.2 gs o)
          refine ⟨fun x z => i1 x (h1.1 x z), fun x z => ?_⟩
          rcases List.mem_cons.mp z with e | e
          · rw [e]; exact i1 o h1.2
          · exact i2 x e
      refine ⟨s1, by rw [s2]; exact List.mem_append_left _ p2, s3, s4, fun i p hi hp o ho => ?_⟩
      have hl : dn < fs.length := (List.getElem?_eq_some_iff.mp q).1
      have hp2 : fs[i]? = some p := by
        rw [s2, List.getElem?_append_left (by omega)] at hp
        exact hp
      by_cases hid : i = dn
      · rw [hid, q] at hp2
        have hp2 := Option.some.inj hp2
        subst hp2
        exact (has (near ts w.1) fs).2 o ho
      · exact (has (near ts w.1) fs).1 o (p5 i p (by omega) hp2 o ho)) (2 * ts.length + 2) (s := q0 b) start
  obtain ⟨k1, k2, k3, k4, k5⟩ := key
  refine ⟨k1, k2, k3, fun p hp o ho => ?_⟩
  obtain ⟨i, hi⟩ := List.getElem?_of_mem hp
  have h2 := qstep_none hn
  refine k5 i p ?_ hi o ho
  have h3 := (List.getElem?_eq_some_iff.mp hi).1
  have h4 := List.getElem?_eq_none_iff.mp h2
  have : (dist ts b).length = (run (qstep ts) (2 * ts.length + 2) (q0 b)).1.length := rfl
  omega
/-! ### webs -/
structure Web (m : Int) (ts : Ties) : Prop where
  lo : 2 ≤ m
  hi : m ≤ 40
  ok : ∀ p ∈ ts, okTie m p = true
  inc : Inc ts
  all : ((reach ts 0 none).length : Int) = m
  few : ts.length < 64
abbrev wD (m : Int) (ts : Ties) : D := .tup [.int m, .tup (ts.map pD)]
def rng (m : Int) : List Int := (List.range m.toNat).map fun (k : Nat) => (k : Int)
theorem rng_mem {m x : Int} : x ∈ rng m ↔ 0 ≤ x ∧ x < m := by
  unfold rng
  simp only [List.mem_map, List.mem_range]
  constructor
  · rintro ⟨k, hk, rfl⟩; omega
  · rintro ⟨h1, h2⟩; exact ⟨x.toNat, by omega, by omega⟩
theorem rng_len (m : Int) : (rng m).length = m.toNat := by unfold rng; simp
theorem rng_nd (m : Int) : (rng m).Nodup := by
  unfold rng
  refine List.Pairwise.map _ (fun a b h => ?_) List.nodup_range
  intro e
  exact h (by omega)
/-- a part without repeats that is as long holds all -/
theorem full {l k : List Int} (nd : l.Nodup) (hs : ∀ x ∈ l, x ∈ k) (hl : k.length ≤ l.length) : ∀ x ∈ k, x ∈ l := by
  induction l generalizing k with
  | nil =>
    intro x hx
    have : k = [] := List.length_eq_zero_iff.mp (by simpa using hl)
    rw [this] at hx; cases hx
  | cons a l ih =>
    intro x hx
    obtain ⟨n1, n2⟩ := List.nodup_cons.mp nd
    by_cases e : x = a
    · rw [e]; exact List.mem_cons_self
    · have ha : a ∈ k := hs a List.mem_cons_self
      refine List.mem_cons_of_mem _ (ih (k := k.erase a) n2 (fun y hy => ?_) ?_ x ?_)
      · have : y ≠ a := fun z => n1 (by rw [← z]; exact hy)
        exact (List.mem_erase_of_ne this).mpr (hs y (List.mem_cons_of_mem _ hy))
      · rw [List.length_erase_of_mem ha]; simp only [List.length_cons] at hl; omega
      · exact (List.mem_erase_of_ne e).mpr hx
section
variable {m : Int} {ts : Ties}
theorem Web.tie (w : Web m ts) {p : Int × Int} (h : p ∈ ts) : 0 ≤ p.1 ∧ p.1 < p.2 ∧ p.2 < m := okTie_iff.mp (w.ok p h)
theorem Web.ne (w : Web m ts) : ∀ p ∈ ts, p.1 ≠ p.2 := fun p h => by have := w.tie h; omega
theorem Web.near (w : Web m ts) {b x : Int} (h : x ∈ near ts b) : 0 ≤ x ∧ x < m := by
  obtain ⟨p, hp, ⟨_, e⟩ | ⟨_, e⟩⟩ := near_mem.mp h <;> have := w.tie hp <;> omega
theorem Web.reach (w : Web m ts) : ∀ x, 0 ≤ x → x < m → x ∈ reach ts 0 none := by
  have sub : ∀ x ∈ M.reach ts 0 none, x ∈ rng m := fun x hx => by
    have lo := w.lo
    exact reach_ind (fun x => x ∈ rng m) (rng_mem.mpr (by omega)) (fun x _ o ho _ => rng_mem.mpr (w.near ho)) x hx
  have := full reach_closed.1 sub (by rw [rng_len]; have := w.all; omega)
  exact fun x h1 h2 => this x (rng_mem.mpr ⟨h1, h2⟩)
theorem Web.dist (w : Web m ts) {b : Int} (h0 : 0 ≤ b) (hb : b < m) {fs : Ties} (ok : DistOk ts b fs) : (∀ x, 0 ≤ x → x < m → x ∈ keys fs) ∧ ∀ x ∈ keys fs, 0 ≤ x ∧ x < m := by
  have cl : ∀ x ∈ keys fs, ∀ o ∈ M.near ts x, o ∈ keys fs := fun x hx o ho => by
    obtain ⟨p, hp, rfl⟩ := List.mem_map.mp hx
    exact ok.closed p hp o ho
  have hbk : b ∈ keys fs := List.mem_map.mpr ⟨_, ok.first, rfl⟩
  have z : (0 : Int) ∈ keys fs := by
    refine Classical.byContradiction fun hz => ?_
    have := reach_ind (ts := ts) (b := 0) (bar := none) (fun x => x ∉ keys fs) hz (fun x hx o ho _ ho2 => hx (cl o ho2 x (near_symm.mp ho))) b (w.reach b h0 hb)
    exact this hbk
  refine ⟨fun x h1 h2 => reach_ind (ts := ts) (b := 0) (bar := none) (fun x => x ∈ keys fs) z (fun x hx o ho _ => cl x hx o ho) x (w.reach x h1 h2), fun x hx => ?_⟩
  obtain ⟨p, hp, rfl⟩ := List.mem_map.mp hx
  rcases ok.par p hp with e | ⟨_, q, _, hq, _⟩
  · rw [e]; exact ⟨h0, hb⟩
  · have := w.near (near_symm.mp hq); exact this
end
end M

set_option Elab.async false
set_option linter.all false
set_option maxRecDepth 100000
/-! What the program tells of webs. -/
namespace M
open PySem Sb
theorem nd_len {l k : List Int} (nd : l.Nodup) (hs : ∀ x ∈ l, x ∈ k) : l.length ≤ k.length := by
  induction l generalizing k with
  | nil => simp
  | cons a l ih =>
    obtain ⟨n1, n2⟩ := List.nodup_cons.mp nd
    have ha : a ∈ k := hs a List.mem_cons_self
    have := ih (k := k.erase a) n2 fun y hy => by
      have : y ≠ a := fun z => n1 (by rw [← z]; exact hy)
      exact (List.mem_erase_of_ne this).mpr (hs y (List.mem_cons_of_mem _ hy))
    rw [List.length_erase_of_mem ha] at this
    have h0 : k.length ≠ 0 := fun z => by rw [List.length_eq_zero_iff.mp z] at ha; cases ha
    simp only [List.length_cons]
    omega
theorem shows_int {k : Nat} {i : Int} (h : i.natAbs < 10 ^ 60) : shows k (.int i) = true := by
  cases k <;> simp [shows, h]
theorem shows_pD {k : Nat} {p : Int × Int} (h1 : p.1.natAbs < 10 ^ 60) (h2 : p.2.natAbs < 10 ^ 60) : shows (k + 1) (pD p) = true := by
  simp only [pD, shows, List.length_cons, List.length_nil, List.all_cons, List.all_nil, shows_int h1, shows_int h2]
  rfl
section
variable {m : Int} {ts : Ties}
theorem Web.isWeb (w : Web m ts) : isWeb (wD m ts) = true := by
  have h : (ts.map pD).all (isTie m) = true := by
    rw [List.all_map, List.all_eq_true]
    intro p hp
    exact w.ok p hp
  have lo := w.lo
  have hi := w.hi
  have all := w.all
  simp only [M.isWeb, h, pairsOf_map, lo, hi, w.inc, all, decide_true, Bool.and_self]
theorem Web.small (w : Web m ts) {p : Int × Int} (h : p ∈ ts) : p.1.natAbs < 10 ^ 60 ∧ p.2.natAbs < 10 ^ 60 := by
  have := w.tie h
  have := w.hi
  have e : (10 : Nat) ^ 60 = 1000000000000000000000000000000000000000000000000000000000000 := by decide
  omega
theorem Web.shows (w : Web m ts) : shows 20 (wD m ts) = true := by
  have h1 : (ts.map pD).all (Sb.shows 18) = true := by
    rw [List.all_map, List.all_eq_true]
    intro p hp
    exact shows_pD (k := 17) (w.small hp).1 (w.small hp).2
  have h2 : (ts.map pD).length ≤ 1000 := by have := w.few; simp; omega
  have h3 : Sb.shows 19 (.tup (ts.map pD)) = true := by
    simp only [Sb.shows, h1, h2, decide_true, Bool.and_self]
  have h4 : Sb.shows 19 (.int m) = true := shows_int (by
    have := w.lo; have := w.hi
    have e : (10 : Nat) ^ 60 = 1000000000000000000000000000000000000000000000000000000000000 := by decide
    omega)
  show (decide (2 ≤ 1000) && (Sb.shows 19 (.int m) && (Sb.shows 19 (.tup (ts.map pD)) && true))) = true
  rw [h3, h4]; rfl
theorem Web.fewD (w : Web m ts) : M.few (wD m ts) := by
  show (ts.map pD).length < 64
  rw [List.length_map]; exact w.few
end
section
variable {T : Nat → Option Def} {sub : Nat → Nat → Bool} {wf n : Nat} {m : Int} {ts : Ties}
theorem e_needweb (hT : Ext T) {d : D} (hd : shows 20 d = true) (hf : few d) (hw : 200 ≤ wf) (hw2 : wf ≤ lim) : callD T sub wf (n + 4) 5 [v d] = if isWeb d = true then .ok false .non [v d] else .ex 1 [v d] := by
  rw [call_eq (hT 5 _ rfl) rfl]
  have c := e_isweb (sub := sub) (wf := wf) (n := n) hT hd hf hw hw2
  cases h : isWeb d <;> simp [B.b5, c, h]
theorem e_needbay (hT : Ext T) {x y : D} (hx : plainD x = true) : callD T sub wf (n + 2) 6 [v (.tup [.int m, y]), v x] = if within x 0 (m - 1) = true then .ok false .non [v (.tup [.int m, y]), v x] else .ex 2 [v (.tup [.int m, y]), v x] := by
  rw [call_eq (hT 6 _ rfl) rfl]
  have c := e_within (sub := sub) (wf := wf) (n := n) hT (l := 0) (m := m - 1) hx
  cases h : within x 0 (m - 1) <;> simp [B.b6, c, h]
/-- refused: no web -/
theorem r_neigh (hT : Ext T) {d x : D} (hd : shows 20 d = true) (hf : few d) (hw : 200 ≤ wf) (hw2 : wf ≤ lim) (h : isWeb d = false) : callD T sub wf (n + 5) 7 [v d, v x] = .ex 1 [v d, v x] := by
  rw [call_eq (hT 7 _ rfl) rfl]
  have c := e_needweb (sub := sub) (wf := wf) (n := n) hT hd hf hw hw2
  rw [h, if_neg (by simp)] at c
  simp [B.b7, c]
theorem r_path (hT : Ext T) {d x y : D} (hd : shows 20 d = true) (hf : few d) (hw : 200 ≤ wf) (hw2 : wf ≤ lim) (h : isWeb d = false) : callD T sub wf (n + 5) 10 [v d, v x, v y] = .ex 1 [v d, v x, v y] := by
  rw [call_eq (hT 10 _ rfl) rfl]
  have c := e_needweb (sub := sub) (wf := wf) (n := n) hT hd hf hw hw2
  rw [h, if_neg (by simp)] at c
  simp [B.b10, c]
theorem r_sides (hT : Ext T) {d : D} (hd : shows 20 d = true) (hf : few d) (hw : 200 ≤ wf) (hw2 : wf ≤ lim) (h : isWeb d = false) : callD T sub wf (n + 5) 12 [v d] = .ex 1 [v d] := by
  rw [call_eq (hT 12 _ rfl) rfl]
  have c := e_needweb (sub := sub) (wf := wf) (n := n) hT hd hf hw hw2
  rw [h, if_neg (by simp)] at c
  simp [B.b12, c]
/-- refused: no bay -/
theorem rb_neigh (hT : Ext T) (w : Web m ts) {x : D} (hx : plainD x = true) (hw : 200 ≤ wf) (hw2 : wf ≤ lim) (h : within x 0 (m - 1) = false) : callD T sub wf (n + 5) 7 [v (wD m ts), v x] = .ex 2 [v (wD m ts), v x] := by
  rw [call_eq (hT 7 _ rfl) rfl]
  have c := e_needweb (sub := sub) (wf := wf) (n := n) hT w.shows w.fewD hw hw2
  rw [w.isWeb, if_pos rfl] at c
  have c2 := e_needbay (sub := sub) (wf := wf) (n := n + 2) (m := m) (y := .tup (ts.map pD)) hT hx
  rw [h, if_neg (by simp)] at c2
  simp [B.b7, c, c2]
theorem rb_path1 (hT : Ext T) (w : Web m ts) {x y : D} (hx : plainD x = true) (hw : 200 ≤ wf) (hw2 : wf ≤ lim) (h : within x 0 (m - 1) = false) : callD T sub wf (n + 5) 10 [v (wD m ts), v x, v y] = .ex 2 [v (wD m ts), v x, v y] := by
  rw [call_eq (hT 10 _ rfl) rfl]
  have c := e_needweb (sub := sub) (wf := wf) (n := n) hT w.shows w.fewD hw hw2
  rw [w.isWeb, if_pos rfl] at c
  have c2 := e_needbay (sub := sub) (wf := wf) (n := n + 2) (m := m) (y := .tup (ts.map pD)) hT hx
  rw [h, if_neg (by simp)] at c2
  simp [B.b10, c, c2]
theorem rb_path2 (hT : Ext T) (w : Web m ts) {x y : D} (hx : plainD x = true) (hy : plainD y = true) (hw : 200 ≤ wf) (hw2 : wf ≤ lim) (h1 : within x 0 (m - 1) = true) (h : within y 0 (m - 1) = false) : callD T sub wf (n + 5) 10 [v (wD m ts), v x, v y] = .ex 2 [v (wD m ts), v x, v y] := by
  rw [call_eq (hT 10 _ rfl) rfl]
  have c := e_needweb (sub := sub) (wf := wf) (n := n) hT w.shows w.fewD hw hw2
  rw [w.isWeb, if_pos rfl] at c
  have c1 := e_needbay (sub := sub) (wf := wf) (n := n + 2) (m := m) (y := .tup (ts.map pD)) hT hx
  rw [h1, if_pos rfl] at c1
  have c2 := e_needbay (sub := sub) (wf := wf) (n := n + 2) (m := m) (y := .tup (ts.map pD)) hT hy
  rw [h, if_neg (by simp)] at c2
  simp [B.b10, c, c1, c2]
theorem within_int {i l u : Int} (h1 : l ≤ i) (h2 : i ≤ u) : within (.int i) l u = true := by simp [within, h1, h2]
theorem e_neigh (hT : Ext T) (w : Web m ts) {b : Int} (h0 : 0 ≤ b) (hb : b < m) (hw : 200 ≤ wf) (hw2 : wf ≤ lim) : callD T sub wf (n + 5) 7 [v (wD m ts), v (.int b)] = .ok true (.lst ((near ts b).map .int)) [v (wD m ts), v (.int b)] := by
  rw [call_eq (hT 7 _ rfl) rfl]
  have c := e_needweb (sub := sub) (wf := wf) (n := n) hT w.shows w.fewD hw hw2
  rw [w.isWeb, if_pos rfl] at c
  have c2 := e_needbay (sub := sub) (wf := wf) (n := n + 2) (m := m) (y := .tup (ts.map pD)) hT (x := .int b) rfl
  rw [within_int h0 (by omega), if_pos rfl] at c2
  have c3 := e_near (sub := sub) (wf := wf) (n := n + 3) hT (d := .tup (ts.map pD)) (b := b) rfl (by have := w.few; have : lim = 100000 := rfl; omega)
  simp [B.b7, c, c2, c3]
/-! ### shortest ways -/
def lab (fs : Ties) (x : Int) : Int := (val fs x).getD 0
def fits (fs : Ties) (a o : Int) : Bool := decide (lab fs o = lab fs a - 1)
def pstep (ts fs : Ties) (b : Int) (s : Int × List Int) : Option (Int × List Int) := if s.1 = b then none else match ((near ts s.1).filter (fits fs s.1)).head? with
  | some a => some (a, s.2 ++ [a])
  | none => none
theorem val_keys {fs : Ties} {x : Int} : x ∈ keys fs → ∃ l, val fs x = some l := by
  induction fs with
  | nil => intro h; cases h
  | cons p fs ih =>
    intro h
    obtain ⟨a, c⟩ := p
    by_cases e : a = x
    · exact ⟨c, by simp [val, e]⟩
    · have : x ∈ keys fs := by
        rcases List.mem_cons.mp h with z | z
        · exact (e z.symm).elim
        · exact z
      obtain ⟨l, hl⟩ := ih this
      exact ⟨l, by simp only [val, e, if_false]; exact hl⟩
theorem val_inv {fs : Ties} {x l : Int} : val fs x = some l → (x, l) ∈ fs := by
  induction fs with
  | nil => intro h; cases h
  | cons p fs ih =>
    intro h
    obtain ⟨a, c⟩ := p
    simp only [val] at h
    split at h
    · rename_i e
      have h := Option.some.inj h
      rw [e, h]; exact List.mem_cons_self
    · exact List.mem_cons_of_mem _ (ih h)
theorem idx_lab {fs : Ties} {x : Int} (h : x ∈ keys fs) : op2D .idx (fD fs) (.int x) = some (false, .int (lab fs x)) := by
  obtain ⟨l, hl⟩ := val_keys h
  show (getK ((keys fs).map .int) ((fs.map (·.2)).map .int) x).map (fun d => (false, d)) = _
  rw [getK_map, hl]
  simp [lab, hl]
structure Ways (m : Int) (ts : Ties) (b : Int) (fs : Ties) : Prop where
  ok : DistOk ts b fs
  all : ∀ x, 0 ≤ x → x < m → x ∈ keys fs
  lt : (ends ts).length + 1 < 200
  b0 : 0 ≤ b
  bm : b < m
theorem Ways.step {b : Int} {fs : Ties} (w : Web m ts) (k : Ways m ts b fs) {a : Int} {p : List Int} (h0 : 0 ≤ a) (ha : a < m) (hne : a ≠ b) : ∃ c r, (near ts a).filter (fits fs a) = c :: r ∧ 0 ≤ c ∧ c < m ∧ pstep ts fs b (a, p) = some (c, p ++ [c]) ∧ lab fs c = lab fs a - 1 ∧ 1 ≤ lab fs a := by
  obtain ⟨l, hl⟩ := val_keys (k.all a h0 ha)
  have hm := val_inv hl
  have hla : lab fs a = l := by simp [lab, hl]
  rcases k.ok.par _ hm with e | ⟨h1, q, hq, hn, he⟩
  · exact (hne (congrArg Prod.fst e)).elim
  · have hvq := val_mem k.ok.nd hq
    have hlq : lab fs q.1 = l - 1 := by simp [lab, hvq]; exact he
    have hmem : q.1 ∈ (near ts a).filter (fits fs a) := List.mem_filter.mpr ⟨hn, by simp [fits, hlq, hla]⟩
    cases hf : (near ts a).filter (fits fs a) with
    | nil => rw [hf] at hmem; cases hmem
    | cons c r =>
      have hc : c ∈ (near ts a).filter (fits fs a) := by rw [hf]; exact List.mem_cons_self
      obtain ⟨hc1, hc2⟩ := List.mem_filter.mp hc
      have hb := w.near hc1
      refine ⟨c, r, rfl, hb.1, hb.2, ?_, by simpa [fits] using hc2, by rw [hla]; exact h1⟩
      unfold pstep
      rw [if_neg hne]
      simp only
      rw [hf]; rfl
theorem Ways.lab_lt {b : Int} {fs : Ties} (k : Ways m ts b fs) : ∀ (l : Nat) (x : Int), x ∈ keys fs → lab fs x = l → l < fs.length := by
  -- each label below one that is there is there
  have key : ∀ (l : Nat) (x : Int), x ∈ keys fs → lab fs x = l → ∃ xs : List Int, xs.length = l + 1 ∧ xs.Nodup ∧ (∀ y ∈ xs, y ∈ keys fs ∧ lab fs y ≤ l) := by
    intro l
    induction l with
    | zero => intro x hx hl; exact ⟨[x], rfl, by simp, by intro y hy; rw [List.mem_singleton.mp hy]; exact ⟨hx, by omega⟩⟩
    | succ l ih =>
      intro x hx hl
      obtain ⟨z, hz⟩ := val_keys hx
      have hzl : z = (l + 1 : Nat) := by rw [← hl]; simp [lab, hz]
      rcases k.ok.par _ (val_inv hz) with e | ⟨_, q, hq, _, he⟩
      · have := congrArg Prod.snd e
        simp only at this
        omega
      · have hvq := val_mem k.ok.nd hq
        have hlq : lab fs q.1 = l := by simp only [lab, hvq, Option.getD_some]; omega
        obtain ⟨xs, h1, h2, h3⟩ := ih q.1 (List.mem_map.mpr ⟨q, hq, rfl⟩) hlq
        refine ⟨x :: xs, by simp [h1], List.nodup_cons.mpr ⟨fun hm => ?_, h2⟩, fun y hy => ?_⟩
        · have := (h3 x hm).2; omega
        · rcases List.mem_cons.mp hy with e | e
          · rw [e]; exact ⟨hx, by omega⟩
          · have := h3 y e; exact ⟨this.1, by omega⟩
  intro l x hx hl
  obtain ⟨xs, h1, h2, h3⟩ := key l x hx hl
  have : xs.length ≤ (keys fs).length := nd_len h2 fun y hy => (h3 y hy).1
  rw [List.length_map] at this
  omega
/-- the way from a to b -/
def path (ts fs : Ties) (b a : Int) : List Int := (run (pstep ts fs b) 200 (a, [])).2
structure Rel9 (m : Int) (ts fs : Ties) (b : Int) (s : Int × List Int) (e : Sb.Env) : Prop where
  env : e = [v (wD m ts), v (.int s.1), v (.int b), .own false (fD fs), .own false (.lst (s.2.map .int)), .no, .no]
  lo : 0 ≤ s.1
  hi : s.1 < m
  ln : s.2.length + (lab fs s.1).toNat ≤ 200
theorem Ways.len {b : Int} {fs : Ties} (w : Web m ts) (k : Ways m ts b fs) : fs.length ≤ 40 := by
  have h1 := w.dist k.b0 k.bm k.ok
  have := nd_len k.ok.nd fun x hx => rng_mem.mpr (h1.2 x hx)
  rw [rng_len, List.length_map] at this
  have := w.hi
  omega
theorem Ways.lab_bd {b : Int} {fs : Ties} (w : Web m ts) (k : Ways m ts b fs) {x : Int} (h0 : 0 ≤ x) (hx : x < m) : 0 ≤ lab fs x ∧ lab fs x < 40 := by
  have hk := k.all x h0 hx
  obtain ⟨l, hl⟩ := val_keys hk
  have hla : lab fs x = l := by simp [lab, hl]
  have h1 : 0 ≤ l := by
    rcases k.ok.par _ (val_inv hl) with e | ⟨h, _⟩
    · have := congrArg Prod.snd e; simp only at this; omega
    · simp only at h; omega
  have h2 := k.lab_lt l.toNat x hk (by omega)
  have := k.len w
  omega
theorem loop_fits {C : Cal} {b a : Int} {fs : Ties} {s : Int × List Int} {t : IT} (w : Web m ts) (k : Ways m ts b fs) (h0 : 0 ≤ s.1) (ha : s.1 < m)
    (ht : ∀ o, 0 ≤ o → o < m → evT C sub t [v (wD m ts), v (.int s.1), v (.int b), .own false (fD fs), .own false (.lst (s.2.map .int)), .no, v (.int o)] = .ok (fits fs s.1 o) [v (wD m ts), v (.int s.1), v (.int b), .own false (fD fs), .own false (.lst (s.2.map .int)), .no, v (.int o)]) :
    loopC (cturn C sub [5, 6] (.nm 6) [t] (.var 6)) ((near ts s.1).map .int) [v (wD m ts), v (.int s.1), v (.int b), .own false (fD fs), .own false (.lst (s.2.map .int)), .no, .no] =
      .ok (((near ts s.1).filter (fits fs s.1)).map .int) [v (wD m ts), v (.int s.1), v (.int b), .own false (fD fs), .own false (.lst (s.2.map .int)), .no, .no] := by
  rw [loopC_fm (fun x => match x with | .int o => if fits fs s.1 o then some (.int o) else none | _ => none)]
  · congr 1
    have : ∀ l : List Int, (l.map D.int).filterMap (fun x => match x with | .int o => if fits fs s.1 o then some (.int o) else none | _ => none) = (l.filter (fits fs s.1)).map D.int := fun l => by
      induction l with
      | nil => rfl
      | cons o l ih =>
        rw [List.map_cons, List.filterMap_cons, List.filter_cons, ih]
        cases q : fits fs s.1 o <;> simp [q]
    exact this _
  · intro x hx
    obtain ⟨o, ho, rfl⟩ := List.mem_map.mp hx
    have hb := w.near ho
    have := ht o hb.1 hb.2
    cases q : fits fs s.1 o <;> simp [cturn, -ev_and, -ev_or, -ev_not, -ev_val, this, q]
theorem e_rawpath (hT : Ext T) (w : Web m ts) {a b : Int} (a0 : 0 ≤ a) (am : a < m) (b0 : 0 ≤ b) (bm : b < m) (hw : 300 ≤ wf) (hw2 : wf ≤ lim) :
    callD T sub wf (n + 3) 9 [v (wD m ts), v (.int a), v (.int b)] = .ok true (.lst ((path ts (dist ts b) b a).map .int)) [v (wD m ts), v (.int a), v (.int b)] := by
  rw [call_eq (hT 9 _ rfl) rfl]
  have few := w.few
  obtain ⟨c8, hn⟩ := e_dist (sub := sub) (wf := wf) (n := n) hT (d := .tup (ts.map pD)) (ts := ts) (b := b) rfl (by omega) hw2
  have ok := dist_ok hn
  have k : Ways m ts b (dist ts b) := ⟨ok, (w.dist b0 bm ok).1, by unfold ends; simp; omega, b0, bm⟩
  obtain ⟨fs, hfs⟩ : ∃ fs, fs = dist ts b := ⟨_, rfl⟩
  rw [← hfs] at c8 k ⊢
  have start : Rel9 m ts fs b (a, []) [v (wD m ts), v (.int a), v (.int b), .own false (fD fs), .own false (.lst []), .no, .no] := ⟨rfl, a0, am, by have := k.lab_bd w a0 am; simp only [List.length_nil]; omega⟩
  obtain ⟨e', q1, ⟨q2, _, _, _⟩, q3⟩ := whl_run (c := evT (callD T sub wf (n + 2)) sub (.val (.op2 .ne (.pk 1) (.pk 2))))
    (b := evSs (callD T sub wf (n + 2)) sub wf [.asg 1 (.op2 .idx (.comp (.seq (.call 2 [.e (.op2 .idx (.pk 0) (.cst (.int 1))), .e (.var 1)])) (.nm 6) [5, 6] [.val (.op2 .eq (.op2 .idx (.pk 3) (.pk 6)) (.op2 .sub (.op2 .idx (.pk 3) (.pk 1)) (.cst (.int 1))))] (.var 6)) (.cst (.int 0))), .app 4 (.var 1)])
    (Rel9 m ts fs b) (pstep ts fs b) (fun s => (lab fs s.1).toNat) (fun s e r hs => by
      obtain ⟨rfl, h0, hm, _⟩ := r
      have : s.1 = b := Classical.byContradiction fun hne => by
        obtain ⟨c, r, _, _, _, h4, _⟩ := k.step w (p := s.2) h0 hm hne
        rw [hs] at h4; cases h4
      simp [this]) (fun s e s' r hs => by
      obtain ⟨rfl, h0, hm, hln⟩ := r
      have hne : s.1 ≠ b := fun z => by unfold pstep at hs; rw [if_pos z] at hs; cases hs
      obtain ⟨c, r, h1, h2, h3, h4, h5, h6⟩ := k.step w (p := s.2) h0 hm hne
      have h4 : pstep ts fs b s = some (c, s.2 ++ [c]) := h4
      rw [hs] at h4
      have h4 := Option.some.inj h4
      subst h4
      refine ⟨by simp only; omega, by simp [hne], _, ?_, rfl, h2, h3, by simp only [List.length_append, List.length_cons, List.length_nil]; omega⟩
      have c2 := e_near (sub := sub) (wf := wf) (n := n + 1) hT (d := .tup (ts.map pD)) (b := s.1) rfl (by have : lim = 100000 := rfl; omega)
      have nl : (near ts s.1).length ≤ lim := by
        have : (near ts s.1).length ≤ ts.length := by unfold near; rw [srtI_len]; exact List.length_filterMap_le _ _
        have : lim = 100000 := rfl
        omega
      have lp := loop_fits (sub := sub) (C := callD T sub wf (n + 2)) (a := s.1) (t := .val (.op2 .eq (.op2 .idx (.pk 3) (.pk 6)) (.op2 .sub (.op2 .idx (.pk 3) (.pk 1)) (.cst (.int 1))))) w k h0 hm (fun o ho1 ho2 => by
        have i1 := idx_lab (k.all o ho1 ho2)
        have i2 := idx_lab (k.all s.1 h0 hm)
        simp [i1, i2, fits])
      rw [h1] at lp
      have hs2 : s.2.length < lim := by have : lim = 100000 := rfl; omega
      simp [c2, nl, lp, hs2]) wf 200 (a, []) _ start (by have := k.lab_bd w a0 am; simp only; omega) (by have := k.lab_bd w a0 am; simp only; omega)
  have e0 : evS (callD T sub wf (n + 2)) sub wf (.par [3, 4] [.call 8 [.e (.op2 .idx (.pk 0) (.cst (.int 1))), .e (.var 2)], .lst []]) [v (wD m ts), v (.int a), v (.int b), .no, .no, .no, .no] = .nxt [v (wD m ts), v (.int a), v (.int b), .own false (fD fs), .own false (.lst []), .no, .no] := by
    simp [c8]
  simp only [B.b9, List.cons_append, List.nil_append, List.replicate, ev_ss1, e0, nxt_bnd, ev_whl, q1, q2]
  simp [path]
theorem minI_head : ∀ {c : Int} {r : List Int}, (c :: r).Pairwise (· ≤ ·) → minI (c :: r) = c
  | c, [], _ => rfl
  | c, d :: r, h => by
    obtain ⟨h1, h2⟩ := List.pairwise_cons.mp h
    rw [show minI (c :: d :: r) = min c (minI (d :: r)) from rfl, minI_head h2]
    have := h1 d List.mem_cons_self
    omega
theorem o_min {c : Int} {r : List Int} (h : (c :: r).Pairwise (· ≤ ·)) : op1D .min_ (.lst (.int c :: r.map .int)) = some (false, .int c) := by
  show (match intsOf (.int c :: r.map .int) with | some ns => if ns = [] then none else oInt (minI ns) | none => none) = _
  rw [show intsOf (.int c :: r.map .int) = some (c :: r) from intsOf_map (c :: r)]
  simp only [if_neg (List.cons_ne_nil c r), minI_head h]
  rfl
theorem e_lawpath (hT : Ext T) (w : Web m ts) {a b : Int} (a0 : 0 ≤ a) (am : a < m) (b0 : 0 ≤ b) (bm : b < m) (hw : 300 ≤ wf) (hw2 : wf ≤ lim) :
    callD T sub wf (n + 3) 26 [v (wD m ts), v (.int a), v (.int b)] = .ok true (.lst ((path ts (dist ts b) b a).map .int)) [v (wD m ts), v (.int a), v (.int b)] := by
  rw [call_eq (hT 26 _ rfl) rfl]
  have few := w.few
  obtain ⟨_, hn⟩ := e_dist (sub := sub) (wf := wf) (n := n) hT (d := .tup (ts.map pD)) (ts := ts) (b := b) rfl (by omega) hw2
  obtain ⟨c8, hn2⟩ := e_far (sub := sub) (wf := wf) (n := n) hT (d := wD m ts) (ts := ts) (b := b) rfl (by omega) hw2 w.ne
  rw [far_dist hn2 hn] at c8
  have ok := dist_ok hn
  have k : Ways m ts b (dist ts b) := ⟨ok, (w.dist b0 bm ok).1, by unfold ends; simp; omega, b0, bm⟩
  obtain ⟨fs, hfs⟩ : ∃ fs, fs = dist ts b := ⟨_, rfl⟩
  rw [← hfs] at c8 k ⊢
  have start : Rel9 m ts fs b (a, []) [v (wD m ts), v (.int a), v (.int b), .own false (fD fs), .own false (.lst []), .no, .no] := ⟨rfl, a0, am, by have := k.lab_bd w a0 am; simp only [List.length_nil]; omega⟩
  obtain ⟨e', q1, ⟨q2, _, _, _⟩, q3⟩ := whl_run (c := evT (callD T sub wf (n + 2)) sub (.val (.op2 .ne (.pk 1) (.pk 2))))
    (b := evSs (callD T sub wf (n + 2)) sub wf [.asg 1 (.op1 .min_ (.comp (.seq (.call 17 [.e (.op2 .idx (.pk 0) (.cst (.int 1))), .e (.var 1)])) (.nm 6) [5, 6] [.val (.op2 .eq (.op2 .add (.op2 .idx (.pk 3) (.pk 6)) (.cst (.int 1))) (.op2 .idx (.pk 3) (.pk 1)))] (.var 6))), .app 4 (.var 1)])
    (Rel9 m ts fs b) (pstep ts fs b) (fun s => (lab fs s.1).toNat) (fun s e r hs => by
      obtain ⟨rfl, h0, hm, _⟩ := r
      have : s.1 = b := Classical.byContradiction fun hne => by
        obtain ⟨c, r, _, _, _, h4, _⟩ := k.step w (p := s.2) h0 hm hne
        rw [hs] at h4; cases h4
      simp [this]) (fun s e s' r hs => by
      obtain ⟨rfl, h0, hm, hln⟩ := r
      have hne : s.1 ≠ b := fun z => by unfold pstep at hs; rw [if_pos z] at hs; cases hs
      obtain ⟨c, r, h1, h2, h3, h4, h5, h6⟩ := k.step w (p := s.2) h0 hm hne
      have h4 : pstep ts fs b s = some (c, s.2 ++ [c]) := h4
      rw [hs] at h4
      have h4 := Option.some.inj h4
      subst h4
      refine ⟨by simp only; omega, by simp [hne], _, ?_, rfl, h2, h3, by simp only [List.length_append, List.length_cons, List.length_nil]; omega⟩
      have c2 := e_near2 (sub := sub) (wf := wf) (n := n + 1) hT (d := .tup (ts.map pD)) (b := s.1) rfl (by have : lim = 100000 := rfl; omega) w.ne
      have nl : (near ts s.1).length ≤ lim := by
        have : (near ts s.1).length ≤ ts.length := by unfold near; rw [srtI_len]; exact List.length_filterMap_le _ _
        have : lim = 100000 := rfl
        omega
      have lp := loop_fits (sub := sub) (C := callD T sub wf (n + 2)) (a := s.1) (t := .val (.op2 .eq (.op2 .add (.op2 .idx (.pk 3) (.pk 6)) (.cst (.int 1))) (.op2 .idx (.pk 3) (.pk 1)))) w k h0 hm (fun o ho1 ho2 => by
        have i1 := idx_lab (k.all o ho1 ho2)
        have i2 := idx_lab (k.all s.1 h0 hm)
        have e : decide (lab fs o + 1 = lab fs s.1) = decide (lab fs o = lab fs s.1 - 1) := by congr 1; exact propext (by omega)
        simp [i1, i2, fits, e])
      rw [h1] at lp
      have srt : (c :: r).Pairwise (· ≤ ·) := by rw [← h1]; exact (srtI_sorted _).filter _
      have om := o_min srt
      have hs2 : s.2.length < lim := by have : lim = 100000 := rfl; omega
      simp [c2, nl, lp, om, hs2]) wf 200 (a, []) _ start (by have := k.lab_bd w a0 am; simp only; omega) (by have := k.lab_bd w a0 am; simp only; omega)
  have e0 : evS (callD T sub wf (n + 2)) sub wf (.par [3, 4] [.call 25 [.e (.var 0), .e (.var 2)], .lst []]) [v (wD m ts), v (.int a), v (.int b), .no, .no, .no, .no] = .nxt [v (wD m ts), v (.int a), v (.int b), .own false (fD fs), .own false (.lst []), .no, .no] := by
    simp [c8]
  simp only [B.b26, List.cons_append, List.nil_append, List.replicate, ev_ss1, e0, nxt_bnd, ev_whl, q1, q2]
  simp [path]
theorem e_firstpath (hT : Ext T) (w : Web m ts) {a b : Int} (a0 : 0 ≤ a) (am : a < m) (b0 : 0 ≤ b) (bm : b < m) (hw : 300 ≤ wf) (hw2 : wf ≤ lim) :
    callD T sub wf (n + 5) 10 [v (wD m ts), v (.int a), v (.int b)] = .ok true (.lst ((path ts (dist ts b) b a).map .int)) [v (wD m ts), v (.int a), v (.int b)] := by
  rw [call_eq (hT 10 _ rfl) rfl]
  have c := e_needweb (sub := sub) (wf := wf) (n := n) hT w.shows w.fewD (by omega) hw2
  rw [w.isWeb, if_pos rfl] at c
  have c1 := e_needbay (sub := sub) (wf := wf) (n := n + 2) (m := m) (y := .tup (ts.map pD)) hT (x := .int a) rfl
  rw [within_int a0 (by omega), if_pos rfl] at c1
  have c2 := e_needbay (sub := sub) (wf := wf) (n := n + 2) (m := m) (y := .tup (ts.map pD)) hT (x := .int b) rfl
  rw [within_int b0 (by omega), if_pos rfl] at c2
  have c3 := e_rawpath (sub := sub) (wf := wf) (n := n + 1) hT w a0 am b0 bm hw hw2
  simp [B.b10, c, c1, c2, c3]
theorem path_len {b : Int} {fs : Ties} (w : Web m ts) (k : Ways m ts b fs) {a : Int} (a0 : 0 ≤ a) (am : a < m) : (path ts fs b a).length ≤ 40 ∧ ∀ x ∈ path ts fs b a, 0 ≤ x ∧ x < m := by
  have key := run_inv (step := pstep ts fs b) (fun s : Int × List Int => 0 ≤ s.1 ∧ s.1 < m ∧ s.2.length + (lab fs s.1).toNat ≤ 40 ∧ ∀ x ∈ s.2, 0 ≤ x ∧ x < m) (fun s s' hs ⟨h0, hm, h1, h2⟩ => by
    have hne : s.1 ≠ b := fun z => by unfold pstep at hs; rw [if_pos z] at hs; cases hs
    obtain ⟨c, r, _, g2, g3, g4, g5, g6⟩ := k.step w (p := s.2) h0 hm hne
    have g4 : pstep ts fs b s = some (c, s.2 ++ [c]) := g4
    rw [hs] at g4
    have g4 := Option.some.inj g4
    subst g4
    refine ⟨g2, g3, by simp only [List.length_append, List.length_cons, List.length_nil]; omega, fun x hx => ?_⟩
    rcases List.mem_append.mp hx with z | z
    · exact h2 x z
    · rw [List.mem_singleton.mp z]; exact ⟨g2, g3⟩) 200 (s := (a, [])) ⟨a0, am, by have := k.lab_bd w a0 am; simp only [List.length_nil]; omega, by simp⟩
  exact ⟨by have := key.2.2.1; unfold path; omega, key.2.2.2⟩
end
end M

set_option Elab.async false
set_option linter.all false
set_option maxRecDepth 100000
/-! Sides. -/
namespace M
open PySem Sb
theorem loopD_map {f : D → Sb.Env → R (Int × D)} {e : Sb.Env} {g : Int → D} : ∀ {fs : Ties} {ks : List Int} {vs : List D}, (∀ p ∈ fs, f (.tup [.int p.1, .int p.2]) e = .ok (p.1, g p.2) e) → (ks ++ keys fs).Nodup →
    loopD f (fs.map fun p => .tup [.int p.1, .int p.2]) e (ks.map .int, vs) = .ok ((ks ++ keys fs).map .int, vs ++ fs.map fun p => g p.2) e
  | [], ks, vs, _, _ => by simp [loopD]
  | p :: fs, ks, vs, h, nd => by
    rw [List.map_cons, loopD, h p List.mem_cons_self, bnd_ok]
    simp only
    have hp : p.1 ∉ ks := fun z => by
      have := (List.nodup_append.mp nd).2.2 p.1 z p.1 (by simp)
      exact this rfl
    rw [putK_new hp, loopD_map (ks := ks ++ [p.1]) (vs := vs ++ [g p.2]) (fun q hq => h q (List.mem_cons_of_mem _ hq)) (by simpa using nd)]
    simp
theorem zipD_ints : ∀ fs : Ties, zipD ((keys fs).map .int) ((fs.map (·.2)).map .int) = fs.map fun p => .tup [.int p.1, .int p.2]
  | [] => rfl
  | p :: fs => by
    simp only [keys, List.map_cons, zipD]
    exact congrArg _ (zipD_ints fs)
/-- labels by two -/
def par2 (fs : Ties) : Ties := fs.map fun p => (p.1, p.2.fmod 2)
theorem par2_keys (fs : Ties) : keys (par2 fs) = keys fs := by simp [par2, keys]
theorem par2_lab {fs : Ties} {x : Int} (h : x ∈ keys fs) : lab (par2 fs) x = (lab fs x).fmod 2 := by
  have : ∀ fs : Ties, val (par2 fs) x = (val fs x).map fun l => l.fmod 2 := fun fs => by
    induction fs with
    | nil => rfl
    | cons p fs ih =>
      obtain ⟨a, c⟩ := p
      simp only [par2, List.map_cons, val] at ih ⊢
      split
      · rfl
      · exact ih
  obtain ⟨l, hl⟩ := val_keys h
  simp [lab, this, hl]
theorem fD_par2 (fs : Ties) : fD (par2 fs) = .dct ((keys fs).map .int) (fs.map fun p => .int (p.2.fmod 2)) := by
  unfold fD
  rw [par2_keys]
  simp [par2]
/-- a tie that joins bays of one side -/
def oneSide (ts fs : Ties) : Bool := ts.any fun p => decide ((lab fs p.1).fmod 2 = (lab fs p.2).fmod 2)
def sidesOf (m : Int) (ts fs : Ties) : D := if oneSide ts fs = true then .non else .tup ((rng m).map fun x => .int ((lab fs x).fmod 2))
theorem fmod2 (x y : Int) : ((x + y).fmod 2 = 0) ↔ (x.fmod 2 = y.fmod 2) := by
  rw [Int.fmod_eq_emod_of_nonneg _ (by omega), Int.fmod_eq_emod_of_nonneg _ (by omega), Int.fmod_eq_emod_of_nonneg _ (by omega)]
  omega
theorem any_bls : ∀ (p : Int × Int → Bool) (ts : Ties), op1D .any_ (.lst (ts.map fun d => .bl (p d))) = some (false, .bl (ts.any p)) := fun p ts => by
  have : ∀ ts : Ties, blsOf (ts.map fun d => D.bl (p d)) = some (ts.map p) := fun ts => by
    induction ts with
    | nil => rfl
    | cons t ts ih => simp only [List.map_cons, blsOf, ih, Option.map_some]
  show (match blsOf (ts.map fun d => D.bl (p d)) with | some bs => oBl (bs.any id) | none => none) = _
  rw [this]
  show some (false, D.bl ((ts.map p).any id)) = _
  rw [List.any_map]; rfl
theorem loopC_ties {f : D → Sb.Env → R (Option D)} {e : Sb.Env} {ts : Ties} (g : Int × Int → D) (h : ∀ p ∈ ts, f (pD p) e = .ok (some (g p)) e) : loopC f (ts.map pD) e = .ok (ts.map g) e := by
  rw [loopC_fm (fun x => match x with | .tup [.int a, .int b] => some (g (a, b)) | _ => none)]
  · congr 1
    clear h
    induction ts with
    | nil => rfl
    | cons t ts ih => rw [List.map_cons, List.filterMap_cons, List.map_cons, ← ih]; rfl
  · intro x hx
    obtain ⟨p, hp, rfl⟩ := List.mem_map.mp hx
    exact h p hp
theorem loopC_rng {f : D → Sb.Env → R (Option D)} {e : Sb.Env} {l : List Int} (g : Int → D) (h : ∀ p ∈ l, f (.int p) e = .ok (some (g p)) e) : loopC f (l.map .int) e = .ok (l.map g) e := by
  rw [loopC_fm (fun x => match x with | .int a => some (g a) | _ => none)]
  · congr 1
    clear h
    induction l with
    | nil => rfl
    | cons t ts ih => rw [List.map_cons, List.filterMap_cons, List.map_cons, ← ih]
  · intro x hx
    obtain ⟨p, hp, rfl⟩ := List.mem_map.mp hx
    exact h p hp
theorem rng_D (m : Int) : ((List.range m.toNat).map fun (k : Nat) => D.int k) = (rng m).map .int := by simp [rng]
section
variable {T : Nat → Option Def} {sub : Nat → Nat → Bool} {wf n : Nat} {m : Int} {ts : Ties}
theorem e_sidesof (hT : Ext T) (w : Web m ts) (hw : 300 ≤ wf) (hw2 : wf ≤ lim) :
    callD T sub wf (n + 3) 11 [v (.tup (ts.map pD)), v (.int 0)] = .ok false (if oneSide ts (dist ts 0) = true then .non else fD (par2 (dist ts 0))) [v (.tup (ts.map pD)), v (.int 0)] := by
  rw [call_eq (hT 11 _ rfl) rfl]
  have few := w.few
  have lo := w.lo
  obtain ⟨c8, hn⟩ := e_dist (sub := sub) (wf := wf) (n := n) hT (d := .tup (ts.map pD)) (ts := ts) (b := 0) rfl (by omega) hw2
  have ok := dist_ok hn
  have k : Ways m ts 0 (dist ts 0) := ⟨ok, (w.dist (by omega) (by omega) ok).1, by unfold ends; simp; omega, by omega, by omega⟩
  have hl := k.len w
  obtain ⟨fs, hfs⟩ : ∃ fs, fs = dist ts 0 := ⟨_, rfl⟩
  rw [← hfs] at c8 k hl ⊢
  have l1 : (fs.map fun p => D.tup [.int p.1, .int p.2]).length ≤ lim := by have : lim = 100000 := rfl; simp; omega
  have lp1 : loopD (dturn (callD T sub wf (n + 2)) sub [3, 4, 5] (.nms [4, 5]) (.var 4) (.op2 .mod (.pk 5) (.cst (.int 2)))) (fs.map fun p => .tup [.int p.1, .int p.2]) [v (.tup (ts.map pD)), v (.int 0), .no, .no, .no, .no, .no, .no] ([], []) =
      .ok ((keys fs).map .int, fs.map fun p => .int (p.2.fmod 2)) [v (.tup (ts.map pD)), v (.int 0), .no, .no, .no, .no, .no, .no] := by
    have := loopD_map (f := dturn (callD T sub wf (n + 2)) sub [3, 4, 5] (.nms [4, 5]) (.var 4) (.op2 .mod (.pk 5) (.cst (.int 2)))) (e := [v (.tup (ts.map pD)), v (.int 0), .no, .no, .no, .no, .no, .no]) (g := fun l => .int (l.fmod 2)) (fs := fs) (ks := []) (vs := []) (fun p hp => by
      simp [dturn]) (by simpa using k.ok.nd)
    simpa using this
  have c1 : evS (callD T sub wf (n + 2)) sub wf (.asg 2 (.dcomp (.items (.call 8 [.e (.var 0), .e (.var 1)])) (.nms [4, 5]) [3, 4, 5] (.var 4) (.op2 .mod (.pk 5) (.cst (.int 2))))) [v (.tup (ts.map pD)), v (.int 0), .no, .no, .no, .no, .no, .no] =
      .nxt [v (.tup (ts.map pD)), v (.int 0), .own false (fD (par2 fs)), .no, .no, .no, .no, .no] := by
    have z := zipD_ints fs
    rw [fD_par2]
    unfold fD at c8
    generalize (fs.map fun p => D.tup [.int p.1, .int p.2]) = Z at *
    simp [c8, z, l1, lp1, -List.map_map]
  have l2 : ts.length ≤ lim := by have : lim = 100000 := rfl; omega
  have lp2 : loopC (cturn (callD T sub wf (n + 2)) sub [3, 6, 7] (.nms [6, 7]) [.val (.op2 .inn (.pk 6) (.pk 2))] (.op2 .eq (.op2 .idx (.pk 2) (.pk 6)) (.op2 .idx (.pk 2) (.pk 7)))) (ts.map pD) [v (.tup (ts.map pD)), v (.int 0), .own false (fD (par2 fs)), .no, .no, .no, .no, .no] =
      .ok (ts.map fun p => .bl (decide ((lab fs p.1).fmod 2 = (lab fs p.2).fmod 2))) [v (.tup (ts.map pD)), v (.int 0), .own false (fD (par2 fs)), .no, .no, .no, .no, .no] := by
    refine loopC_ties _ fun p hp => ?_
    have ht := w.tie hp
    have k1 := k.all p.1 (by omega) (by omega)
    have k2 := k.all p.2 (by omega) (by omega)
    have i1 := idx_lab (fs := par2 fs) (x := p.1) (by rw [par2_keys]; exact k1)
    have i2 := idx_lab (fs := par2 fs) (x := p.2) (by rw [par2_keys]; exact k2)
    rw [par2_lab k1] at i1
    rw [par2_lab k2] at i2
    have i3 : op2D .inn (.int p.1) (fD (par2 fs)) = some (false, .bl true) := by
      unfold fD
      rw [o_inD, par2_keys]
      simp only [k1, decide_true]
    simp only [pD]
    simp [cturn, i1, i2, i3]
  have an := any_bls (fun p => decide ((lab fs p.1).fmod 2 = (lab fs p.2).fmod 2)) ts
  have c2 : evT (callD T sub wf (n + 2)) sub (.val (.op1 .any_ (.comp (.seq (.var 0)) (.nms [6, 7]) [3, 6, 7] [.val (.op2 .inn (.pk 6) (.pk 2))] (.op2 .eq (.op2 .idx (.pk 2) (.pk 6)) (.op2 .idx (.pk 2) (.pk 7)))))) [v (.tup (ts.map pD)), v (.int 0), .own false (fD (par2 fs)), .no, .no, .no, .no, .no] =
      .ok (oneSide ts fs) [v (.tup (ts.map pD)), v (.int 0), .own false (fD (par2 fs)), .no, .no, .no, .no, .no] := by
    simp [l2, lp2, an, oneSide]
  simp only [B.b11, List.cons_append, List.nil_append, List.replicate, ev_ss1, c1, nxt_bnd, ev_ret, ev_ite, c2, bnd_ok]
  cases oneSide ts fs <;> simp
theorem e_sides (hT : Ext T) (w : Web m ts) (hw : 300 ≤ wf) (hw2 : wf ≤ lim) : callD T sub wf (n + 5) 12 [v (wD m ts)] = .ok false (sidesOf m ts (dist ts 0)) [v (wD m ts)] := by
  rw [call_eq (hT 12 _ rfl) rfl]
  have few := w.few
  have lo := w.lo
  have hi := w.hi
  have c := e_needweb (sub := sub) (wf := wf) (n := n) hT w.shows w.fewD (by omega) hw2
  rw [w.isWeb, if_pos rfl] at c
  have c2 := e_sidesof (sub := sub) (wf := wf) (n := n + 1) hT w hw hw2
  obtain ⟨_, hn⟩ := e_dist (sub := sub) (wf := wf) (n := n) hT (d := .tup (ts.map pD)) (ts := ts) (b := 0) rfl (by omega) hw2
  have ok := dist_ok hn
  have k : Ways m ts 0 (dist ts 0) := ⟨ok, (w.dist (by omega) (by omega) ok).1, by unfold ends; simp; omega, by omega, by omega⟩
  obtain ⟨fs, hfs⟩ : ∃ fs, fs = dist ts 0 := ⟨_, rfl⟩
  rw [← hfs] at c2 k ⊢
  unfold sidesOf
  have c1 : evS (callD T sub wf (n + 4)) sub wf (.asg 1 (.call 11 [.e (.op2 .idx (.pk 0) (.cst (.int 1))), .e (.cst (.int 0))])) [v (wD m ts), .no, .no, .no] = .nxt [v (wD m ts), v (if oneSide ts fs = true then .non else fD (par2 fs)), .no, .no] := by
    simp [c2]
  have c0 : evS (callD T sub wf (n + 4)) sub wf (.exp (.call 5 [.e (.var 0)])) [v (wD m ts), .no, .no, .no] = .nxt [v (wD m ts), .no, .no, .no] := by
    simp [c]
  simp only [B.b12, List.cons_append, List.nil_append, List.replicate, ev_ss1, c0, c1, nxt_bnd]
  cases q : oneSide ts fs with
  | true => simp [isNon]
  | false =>
    have l1 : ((rng m).map D.int).length ≤ lim := by have : lim = 100000 := rfl; simp [rng_len]; omega
    have lp : loopC (cturn (callD T sub wf (n + 4)) sub [2, 3] (.nm 3) [] (.op2 .idx (.pk 1) (.pk 3))) ((rng m).map .int) [v (wD m ts), v (fD (par2 fs)), .no, .no] = .ok ((rng m).map fun x => .int ((lab fs x).fmod 2)) [v (wD m ts), v (fD (par2 fs)), .no, .no] := by
      refine loopC_rng _ fun x hx => ?_
      have hx := rng_mem.mp hx
      have k1 := k.all x hx.1 hx.2
      have i1 := idx_lab (fs := par2 fs) (x := x) (by rw [par2_keys]; exact k1)
      rw [par2_lab k1] at i1
      simp [cturn, i1]
    have g1 : -4611686018427387904 ≤ m := by omega
    have g2 : m ≤ 100000 := by omega
    have r := rng_D m
    generalize (rng m).map D.int = G at *
    have nn : isNon (fD (par2 fs)) = false := rfl
    simp [nn, g1, g2, r, l1, lp]
theorem e_lawsides (hT : Ext T) (w : Web m ts) (hw : 300 ≤ wf) (hw2 : wf ≤ lim) : callD T sub wf (n + 3) 30 [v (wD m ts)] = .ok false (sidesOf m ts (dist ts 0)) [v (wD m ts)] := by
  rw [call_eq (hT 30 _ rfl) rfl]
  have few := w.few
  have lo := w.lo
  have hi := w.hi
  obtain ⟨_, hn⟩ := e_dist (sub := sub) (wf := wf) (n := n) hT (d := .tup (ts.map pD)) (ts := ts) (b := 0) rfl (by omega) hw2
  obtain ⟨c8, hn2⟩ := e_far (sub := sub) (wf := wf) (n := n) hT (d := wD m ts) (ts := ts) (b := 0) rfl (by omega) hw2 w.ne
  rw [far_dist hn2 hn] at c8
  have ok := dist_ok hn
  have k : Ways m ts 0 (dist ts 0) := ⟨ok, (w.dist (by omega) (by omega) ok).1, by unfold ends; simp; omega, by omega, by omega⟩
  obtain ⟨fs, hfs⟩ : ∃ fs, fs = dist ts 0 := ⟨_, rfl⟩
  rw [← hfs] at c8 k ⊢
  unfold sidesOf
  have l2 : ts.length ≤ lim := by have : lim = 100000 := rfl; omega
  obtain ⟨G, lp, ne⟩ : ∃ G, loopC (cturn (callD T sub wf (n + 2)) sub [2, 3, 4] (.nms [3, 4]) [.val (.op2 .eq (.op2 .mod (.op1 .int_ (.op2 .add (.op2 .idx (.pk 1) (.pk 3)) (.op2 .idx (.pk 1) (.pk 4)))) (.cst (.int 2))) (.cst (.int 0)))] (.cst (.int 1))) (ts.map pD) [v (wD m ts), .own false (fD fs), .no, .no, .no, .no] = .ok G [v (wD m ts), .own false (fD fs), .no, .no, .no, .no] ∧
      op2D .ne (.lst G) (.lst []) = some (false, .bl (oneSide ts fs)) := by
    refine ⟨(ts.map pD).filterMap fun x => if (match x with | .tup [.int a, .int b] => !decide ((lab fs a).fmod 2 = (lab fs b).fmod 2) | _ => true) = true then none else some (.int 1), loopC_fm _ fun x hx => ?_, ?_⟩
    · obtain ⟨p, hp, rfl⟩ := List.mem_map.mp hx
      have ht := w.tie hp
      have i1 := idx_lab (k.all p.1 (by omega) (by omega))
      have i2 := idx_lab (k.all p.2 (by omega) (by omega))
      have e := fmod2 (lab fs p.1) (lab fs p.2)
      simp only [pD]
      by_cases q : (lab fs p.1).fmod 2 = (lab fs p.2).fmod 2
      · have q2 := e.mpr q
        simp [cturn, i1, i2, q, q2]
      · have q2 : ¬ (lab fs p.1 + lab fs p.2).fmod 2 = 0 := fun z => q (e.mp z)
        simp [cturn, i1, i2, q, q2]
    · rw [o_neAll filter_ok, filter_none, List.all_map]
      congr 3
      unfold oneSide
      rw [List.not_all_eq_any_not]
      congr 1
      funext p
      simp [pD]
  have c1 : evS (callD T sub wf (n + 2)) sub wf (.asg 1 (.call 25 [.e (.var 0), .e (.cst (.int 0))])) [v (wD m ts), .no, .no, .no, .no, .no] = .nxt [v (wD m ts), .own false (fD fs), .no, .no, .no, .no] := by
    simp [c8]
  have c2 : evT (callD T sub wf (n + 2)) sub (.val (.op2 .ne (.comp (.seq (.op2 .idx (.pk 0) (.cst (.int 1)))) (.nms [3, 4]) [2, 3, 4] [.val (.op2 .eq (.op2 .mod (.op1 .int_ (.op2 .add (.op2 .idx (.pk 1) (.pk 3)) (.op2 .idx (.pk 1) (.pk 4)))) (.cst (.int 2))) (.cst (.int 0)))] (.cst (.int 1))) (.lst []))) [v (wD m ts), .own false (fD fs), .no, .no, .no, .no] = .ok (oneSide ts fs) [v (wD m ts), .own false (fD fs), .no, .no, .no, .no] := by
    simp [l2, lp, ne]
  simp only [B.b30, List.cons_append, List.nil_append, List.replicate, ev_ss1, c1, nxt_bnd, ev_ifs, c2, toS_ok]
  cases q : oneSide ts fs with
  | true => simp
  | false =>
    have l1 : ((rng m).map D.int).length ≤ lim := by have : lim = 100000 := rfl; simp [rng_len]; omega
    have lp3 : loopC (cturn (callD T sub wf (n + 2)) sub [2, 5] (.nm 5) [] (.op2 .mod (.op1 .int_ (.op2 .idx (.pk 1) (.pk 5))) (.cst (.int 2)))) ((rng m).map .int) [v (wD m ts), .own false (fD fs), .no, .no, .no, .no] = .ok ((rng m).map fun x => .int ((lab fs x).fmod 2)) [v (wD m ts), .own false (fD fs), .no, .no, .no, .no] := by
      refine loopC_rng _ fun x hx => ?_
      have hx := rng_mem.mp hx
      have i1 := idx_lab (k.all x hx.1 hx.2)
      simp [cturn, i1]
    have g1 : -4611686018427387904 ≤ m := by omega
    have g2 : m ≤ 100000 := by omega
    have r := rng_D m
    generalize (rng m).map D.int = G2 at *
    simp [g1, g2, r, l1, lp3]
end
end M

set_option Elab.async false
set_option linter.all false
set_option maxRecDepth 100000
/-! Drawing. -/
namespace M
open PySem Sb
theorem fmod_nat {k j : Nat} : (k : Int).fmod (j : Int) = ((k % j : Nat) : Int) := by
  rw [Int.fmod_eq_emod_of_nonneg _ (by omega)]; rfl
theorem fmod_12 {k : Nat} : (k : Int).fmod 12 = ((k % 12 : Nat) : Int) := fmod_nat (j := 12)
theorem enum_mem {x : D} : ∀ {ds : List D} {i : Nat}, x ∈ enumFrom i ds → ∃ (k : Nat) (d : D), d ∈ ds ∧ x = .tup [.int k, d]
  | [], _, h => by cases h
  | d :: ds, i, h => by
    rcases List.mem_cons.mp h with e | e
    · exact ⟨i, d, List.mem_cons_self, e⟩
    · obtain ⟨k, y, hy, e⟩ := enum_mem e
      exact ⟨k, y, List.mem_cons_of_mem _ hy, e⟩
theorem cut_ints {ns : List Int} {lo hi : Option Int} : ∃ ms : List Int, cutD (ns.map .int) lo hi = ms.map .int := by
  unfold cutD
  rw [List.length_map, ← List.map_drop, ← List.map_take]
  exact ⟨_, rfl⟩
section
variable {T : Nat → Option Def} {sub : Nat → Nat → Bool} {wf n : Nat}
theorem e_open (hT : Ext T) {ns : List Int} (hl : ns.length ≤ 63) : ∃ cells : List Int, cells.length ≤ 12 ∧ callD T sub wf (n + 1) 13 [v (.scr ns)] = .ok true (.lst [.lst (cells.map .int), .int 0, .int 0]) [v (.scr ns)] := by
  rw [call_eq (hT 13 _ rfl) rfl]
  have h1 : HT.sIx ns.length 0 none = 0 := rfl
  have h2 : HT.sIx ns.length ns.length (some 12) = min 12 ns.length := HT.sIx_nat _ _ 12
  have h3 : HT.sIx ns.length 0 (some 12) = min 12 ns.length := HT.sIx_nat _ _ 12
  have c1 : cutD (ns.map D.int) none (some 12) = (ns.take 12).map .int := by
    unfold cutD
    rw [List.length_map, h1, h2, List.drop_zero, Nat.sub_zero, ← List.map_take, ← List.take_eq_take_min]
  have c2 : ∃ ms : List Int, cutD (ns.map D.int) (some 12) (some 63) = ms.map .int ∧ (ns.length < 12 → ms = []) := by
    unfold cutD
    rw [List.length_map, h3, ← List.map_drop, ← List.map_take]
    refine ⟨_, rfl, fun h => ?_⟩
    rw [Nat.min_eq_right (by omega), List.drop_length, List.take_nil]
  obtain ⟨ms, c2, c3⟩ := c2
  have loop : ∃ cells : List Int, cells.length ≤ 12 ∧ ∃ t2 t3, loopF (turn (callD T sub wf n) sub wf (.nms [2, 3]) [.seti 1 (.op2 .mod (.op1 .int_ (.pk 2)) (.cst (.int 12))) (.op2 .add (.op2 .idx (.pk 1) (.op2 .mod (.op1 .int_ (.pk 2)) (.cst (.int 12)))) (.pk 3))]) (enumFrom 0 (ms.map .int)) [v (.scr ns), .own false (.lst ((ns.take 12).map .int)), .no, .no] =
      .nxt [v (.scr ns), .own false (.lst (cells.map .int)), t2, t3] := by
    by_cases hn : ns.length < 12
    · rw [c3 hn]
      exact ⟨ns.take 12, by rw [List.length_take]; omega, .no, .no, rfl⟩
    · obtain ⟨e', q, cells, hc, t2, t3, _, _, rfl⟩ := for_fold (σ := Unit) (f := turn (callD T sub wf n) sub wf (.nms [2, 3]) [.seti 1 (.op2 .mod (.op1 .int_ (.pk 2)) (.cst (.int 12))) (.op2 .add (.op2 .idx (.pk 1) (.op2 .mod (.op1 .int_ (.pk 2)) (.cst (.int 12)))) (.pk 3))])
        (fun _ e => ∃ cells : List Int, cells.length = 12 ∧ ∃ t2 t3 : Slot, t2.pin = false ∧ t3.pin = false ∧ e = [v (.scr ns), .own false (.lst (cells.map .int)), t2, t3]) (fun s _ => s) (xs := enumFrom 0 (ms.map .int)) (s := ()) (fun _ x e hx ⟨cells, hc, t2, t3, h2, h3, he⟩ => by
          subst he
          obtain ⟨k, d, hd, rfl⟩ := enum_mem hx
          obtain ⟨c, _, rfl⟩ := List.mem_map.mp hd
          have hk : k % 12 < cells.length := by omega
          have hk2 : k % 12 < (cells.map D.int).length := by simpa using hk
          refine ⟨[v (.scr ns), .own false (.lst ((cells.set (k % 12) (cells[k % 12] + c)).map .int)), v (.int k), v (.int c)], ?_, cells.set (k % 12) (cells[k % 12] + c), by simpa using hc, _, _, rfl, rfl, rfl⟩
          have g : (cells.map D.int)[k % 12]? = some (.int cells[k % 12]) := by rw [List.getElem?_map, List.getElem?_eq_getElem hk]; rfl
          rw [List.map_set]
          generalize hG : cells.map D.int = G at *
          have a1 : atD G ((k % 12 : Nat) : Int) = some (.int cells[k % 12]) := by rw [atD_nat, g]
          have a2 : L2.ixN G.length ((k % 12 : Nat) : Int) = some (k % 12) := by rw [ixN_nat, if_pos hk2]
          generalize hj : k % 12 = j at *
          simp [turn, h2, h3, fmod_12, hj, a1, a2, -atD_nat, -ixN_nat]) ⟨ns.take 12, by rw [List.length_take]; omega, .no, .no, rfl, rfl, rfl⟩
      exact ⟨cells, by omega, t2, t3, q⟩
  obtain ⟨cells, hc, t2, t3, q⟩ := loop
  refine ⟨cells, hc, ?_⟩
  simp only [B.b13, List.cons_append, List.nil_append, List.replicate, ev_ss1]
  have a1 : evS (callD T sub wf n) sub wf (.asg 1 (.op1 .list (.sl (.pk 0) (.no) (.e (.cst (.int 12)))))) [v (.scr ns), .no, .no, .no] = .nxt [v (.scr ns), .own false (.lst ((ns.take 12).map .int)), .no, .no] := by
    simp [slD, c1, oLst]
  have a2 : evI (callD T sub wf n) sub (.enum (.sl (.pk 0) (.e (.cst (.int 12))) (.e (.cst (.int 63))))) [v (.scr ns), .own false (.lst ((ns.take 12).map .int)), .no, .no] = .ok (enumFrom 0 (ms.map .int)) [v (.scr ns), .own false (.lst ((ns.take 12).map .int)), .no, .no] := by
    simp [slD, c2, oLst]
  rw [a1, nxt_bnd, ev_ss1, ev_for, a2, toS_ok, q, nxt_bnd]
  simp
/-- the row of primes -/
def primes : List Int := [2147483629, 2147483587, 2147483579, 2147483563, 2147483549, 2147483543, 2147483497, 2147483489, 2147483477, 2147483423, 2147483399, 2147483353, 2147483323]
theorem prime_at {k : Int} (hk : 0 ≤ k) : ∃ p : Int, atD (primes.map .int) (k.fmod 13) = some (.int p) ∧ 0 < p ∧ p < 2147483648 := by
  obtain ⟨j, rfl⟩ := Int.eq_ofNat_of_zero_le hk
  rw [show ((j : Nat) : Int).fmod 13 = ((j % 13 : Nat) : Int) from fmod_nat (j := 13), atD_nat]
  have h : j % 13 < 13 := Nat.mod_lt _ (by omega)
  have all : ∀ i : Nat, i < 13 → ∃ p : Int, (primes.map D.int)[i]? = some (.int p) ∧ 0 < p ∧ p < 2147483648 := by
    intro i hi
    match i, hi with
    | 0, _ => exact ⟨_, rfl, by decide, by decide⟩
    | 1, _ => exact ⟨_, rfl, by decide, by decide⟩
    | 2, _ => exact ⟨_, rfl, by decide, by decide⟩
    | 3, _ => exact ⟨_, rfl, by decide, by decide⟩
    | 4, _ => exact ⟨_, rfl, by decide, by decide⟩
    | 5, _ => exact ⟨_, rfl, by decide, by decide⟩
    | 6, _ => exact ⟨_, rfl, by decide, by decide⟩
    | 7, _ => exact ⟨_, rfl, by decide, by decide⟩
    | 8, _ => exact ⟨_, rfl, by decide, by decide⟩
    | 9, _ => exact ⟨_, rfl, by decide, by decide⟩
    | 10, _ => exact ⟨_, rfl, by decide, by decide⟩
    | 11, _ => exact ⟨_, rfl, by decide, by decide⟩
    | 12, _ => exact ⟨_, rfl, by decide, by decide⟩
    | i + 13, h => omega
  exact all _ h
theorem fmod_bd {x p : Int} (hp : 0 < p) : 0 ≤ x.fmod p ∧ x.fmod p < p := by
  rw [Int.fmod_eq_emod_of_nonneg _ (by omega)]
  exact ⟨Int.emod_nonneg _ (by omega), Int.emod_lt_of_pos _ hp⟩
theorem e_spread (hT : Ext T) {c k : Int} (h0 : 0 ≤ k) (hk : k ≤ 1000000) : ∃ r : Int, callD T sub wf (n + 1) 14 [v (.int c), v (.int k)] = .ok false (.int r) [v (.int c), v (.int k)] := by
  rw [call_eq (hT 14 _ rfl) rfl]
  by_cases hc : 1000000000000000000 ≤ c
  · exact ⟨c, by simp [B.b14, hc]⟩
  · obtain ⟨p1, e1, p1a, p1b⟩ := prime_at h0
    obtain ⟨p2, e2, p2a, p2b⟩ := prime_at (k := k + 5) (by omega)
    obtain ⟨p3, e3, p3a, p3b⟩ := prime_at (k := k + 7) (by omega)
    have b1 := fmod_bd (x := c) (p := 1000000007) (by omega)
    have b2 := fmod_bd (x := c) (p := 65537) (by omega)
    obtain ⟨o1, ho1⟩ : ∃ o1, o1 = c.fmod 1000000007 * (2 * k + 69069) := ⟨_, rfl⟩
    have g1 : 0 ≤ o1 ∧ o1 ≤ 1000000007 * 2069069 := by
      rw [ho1]
      refine ⟨Int.mul_nonneg b1.1 (by omega), ?_⟩
      exact Int.mul_le_mul (by omega) (by omega) (by omega) (by omega)
    obtain ⟨o2, ho2⟩ : ∃ o2, o2 = ((o1 + k * 40503 + 977) ^ 3).fmod p1 := ⟨_, rfl⟩
    have g2 : 0 ≤ o2 ∧ o2 < p1 := by rw [ho2]; exact fmod_bd p1a
    have g2b := fmod_bd (x := o2) (p := 1009) (by omega)
    obtain ⟨q, hq⟩ : ∃ q, q = o2 * (k + 3) := ⟨_, rfl⟩
    have g3 : 0 ≤ q ∧ q ≤ 2147483648 * 1000003 := by
      rw [hq]
      exact ⟨Int.mul_nonneg g2.1 (by omega), Int.mul_le_mul (by omega) (by omega) (by omega) (by omega)⟩
    obtain ⟨t, ht⟩ : ∃ t, t = ((q + c.fmod 65537 + 5) ^ 5).fmod p2 := ⟨_, rfl⟩
    have g4 : 0 ≤ t ∧ t < p2 := by rw [ht]; exact fmod_bd p2a
    refine ⟨(o2 * 2147483647 + t) * 2147483647 + ((t + o2.fmod 1009 + k) ^ 3).fmod p3, ?_⟩
    have s1 : small64 (c.fmod 1000000007) = true := by unfold small64; simp; omega
    have s2 : small64 2 = true := by decide
    have s3 : small64 40503 = true := by decide
    have s4 : small64 o2 = true := by unfold small64; simp; omega
    have s5 : small64 2147483647 = true := by decide
    have w1 : (o1 + k * 40503 + 977).natAbs < 18446744073709551616 := by omega
    have w2 : (q + c.fmod 65537 + 5).natAbs < 18446744073709551616 := by omega
    have w3 : (t + o2.fmod 1009 + k).natAbs < 18446744073709551616 := by omega
    have z1 : ¬ p1 = 0 := by omega
    have z2 : ¬ p2 = 0 := by omega
    have z3 : ¬ p3 = 0 := by omega
    have pr : [D.int 2147483629, .int 2147483587, .int 2147483579, .int 2147483563, .int 2147483549, .int 2147483543, .int 2147483497, .int 2147483489, .int 2147483477, .int 2147483423, .int 2147483399, .int 2147483353, .int 2147483323] = primes.map .int := rfl
    have l1 : (8 : Nat) + 5 ≤ lim := by decide
    simp [B.b14, hc, s1, s2, s3, s4, s5, ← ho1, w1, e1, z1, ← ho2, ← hq, w2, e2, z2, ← ht, w3, e3, z3, pr, l1]
end
end M

set_option Elab.async false
set_option linter.all false
set_option maxRecDepth 100000
/-! Drawing numbers, items, orders. -/
namespace M
open PySem Sb
/-- a pen: at most K draws so far -/
structure Pen (K : Nat) (d : D) : Prop where
  ex : ∃ (cells : List Int) (k r : Int), d = .lst [.lst (cells.map .int), .int k, .int r] ∧ cells.length ≤ 12 ∧ 0 ≤ k ∧ k ≤ K
theorem Pen.mono {K C : Nat} {d : D} (p : Pen K d) (h : K ≤ C) : Pen C d := by
  obtain ⟨cells, k, r, e, h1, h2, h3⟩ := p.ex
  exact ⟨cells, k, r, e, h1, h2, by omega⟩
theorem natAbs_small {j : Int} (h1 : 1 ≤ j) (h2 : j < 1073741824) : j ≠ 0 ∧ j.natAbs < 1073741824 := by omega
theorem perm_erase : ∀ {l : List Int} {j : Nat} (h : j < l.length), (l[j] :: l.eraseIdx j).Perm l
  | [], _, h => by simp at h
  | x :: l, 0, _ => by simp
  | x :: l, j + 1, h => by
    simp only [List.getElem_cons_succ, List.eraseIdx_cons_succ]
    exact (List.Perm.swap _ _ _).trans ((perm_erase (by simpa using h)).cons x)
theorem erase_map : ∀ {l : List Int} {j : Nat}, (l.map D.int).eraseIdx j = (l.eraseIdx j).map D.int
  | [], _ => rfl
  | _ :: _, 0 => rfl
  | x :: l, j + 1 => by simp [erase_map (l := l) (j := j)]
section
variable {T : Nat → Option Def} {sub : Nat → Nat → Bool} {wf n : Nat}
theorem e_take (hT : Ext T) {K : Nat} {p : D} {m : Int} (hp : Pen K p) (hB : K ≤ 1000000) (h1 : 1 ≤ m) (h2 : m < 1073741824) :
    ∃ (t : Int) (p' : D), Pen (K + 1) p' ∧ 0 ≤ t ∧ t < m ∧ callD T sub wf (n + 2) 15 [.own true p, v (.int m)] = .ok false (.int t) [.own true p', v (.int m)] := by
  obtain ⟨cells, k, r, rfl, hc, k0, kB⟩ := hp.ex
  have m0 : ¬ m = 0 := by omega
  have mA : m.natAbs < 1073741824 := by omega
  by_cases hr : r < m
  · -- a new cell is spread
    have cell : ∃ c : Int, evSs (callD T sub wf (n + 1)) sub wf [.asg 2 (.op2 .idx (.pk 0) (.cst (.int 1))), .asg 3 (.cst (.int 0)),
        .ifs (.val (.op2 .lt (.pk 2) (.op1 .len (.op2 .idx (.pk 0) (.cst (.int 0)))))) [.asg 3 (.op2 .idx (.op2 .idx (.pk 0) (.cst (.int 0))) (.pk 2))] [.ifs (.val (.op2 .gt (.op1 .len (.op2 .idx (.pk 0) (.cst (.int 0)))) (.cst (.int 0)))) [.asg 3 (.op2 .mod (.op1 .int_ (.op2 .idx (.op2 .idx (.pk 0) (.cst (.int 0))) (.op2 .mod (.op1 .int_ (.op2 .add (.op2 .mul (.pk 2) (.cst (.int 5))) (.cst (.int 3)))) (.op1 .len (.op2 .idx (.pk 0) (.cst (.int 0))))))) (.op2 .add (.op2 .pow (.cst (.int 10)) (.cst (.int 17))) (.pk 2)))] []]]
        [.own true (.lst [.lst (cells.map .int), .int k, .int r]), v (.int m), .no, .no, .no] = .nxt [.own true (.lst [.lst (cells.map .int), .int k, .int r]), v (.int m), v (.int k), v (.int c), .no] := by
      by_cases hk : k < cells.length
      · obtain ⟨j, rfl⟩ := Int.eq_ofNat_of_zero_le k0
        have hj : j < cells.length := by omega
        have g : (cells.map D.int)[j]? = some (.int cells[j]) := by rw [List.getElem?_map, List.getElem?_eq_getElem hj]; rfl
        refine ⟨cells[j], ?_⟩
        simp [hj, g]
      · by_cases h0 : cells.length = 0
        · have : cells = [] := List.length_eq_zero_iff.mp h0
          subst this
          refine ⟨0, ?_⟩
          have k1 : ¬ k < 0 := by omega
          simp [k1]
        · have hL : 0 < cells.length := by omega
          have b := fmod_bd (x := k * 5 + 3) (p := cells.length) (by omega)
          obtain ⟨j, hj⟩ := Int.eq_ofNat_of_zero_le b.1
          have hj2 : j < cells.length := by omega
          have g : (cells.map D.int)[j]? = some (.int cells[j]) := by rw [List.getElem?_map, List.getElem?_eq_getElem hj2]; rfl
          refine ⟨(cells[j]).fmod (100000000000000000 + k), ?_⟩
          have s5 : small64 5 = true := by decide
          have z : ¬ (cells.length : Int) = 0 := by omega
          have z1 : ¬ (100000000000000000 + k) = 0 := by omega
          have z2 : cells ≠ [] := fun e => h0 (by rw [e]; rfl)
          simp [hk, hL, s5, h0, z2, hj, g, z1]
    obtain ⟨c, hcell⟩ := cell
    obtain ⟨r2, hsp⟩ := e_spread (sub := sub) (wf := wf) (n := n) hT (c := c) (k := k) k0 (by omega)
    have b := fmod_bd (x := r2) (p := m) (by omega)
    refine ⟨r2.fmod m, .lst [.lst (cells.map .int), .int (k + 1), .int (r2.fdiv m)], ⟨cells, k + 1, r2.fdiv m, rfl, hc, by omega, by omega⟩, b.1, b.2, ?_⟩
    rw [call_eq (hT 15 _ rfl) rfl]
    simp only [B.b15, List.cons_append, List.nil_append, List.replicate]
    have body : evS (callD T sub wf (n + 1)) sub wf (.ifs (.val (.op2 .lt (.op2 .idx (.pk 0) (.cst (.int 2))) (.pk 1))) [.asg 2 (.op2 .idx (.pk 0) (.cst (.int 1))), .asg 3 (.cst (.int 0)),
        .ifs (.val (.op2 .lt (.pk 2) (.op1 .len (.op2 .idx (.pk 0) (.cst (.int 0)))))) [.asg 3 (.op2 .idx (.op2 .idx (.pk 0) (.cst (.int 0))) (.pk 2))] [.ifs (.val (.op2 .gt (.op1 .len (.op2 .idx (.pk 0) (.cst (.int 0)))) (.cst (.int 0)))) [.asg 3 (.op2 .mod (.op1 .int_ (.op2 .idx (.op2 .idx (.pk 0) (.cst (.int 0))) (.op2 .mod (.op1 .int_ (.op2 .add (.op2 .mul (.pk 2) (.cst (.int 5))) (.cst (.int 3)))) (.op1 .len (.op2 .idx (.pk 0) (.cst (.int 0))))))) (.op2 .add (.op2 .pow (.cst (.int 10)) (.cst (.int 17))) (.pk 2)))] []],
        .seti 0 (.cst (.int 1)) (.op2 .add (.pk 2) (.cst (.int 1))), .seti 0 (.cst (.int 2)) (.call 14 [.e (.var 3), .e (.var 2)])] []) [.own true (.lst [.lst (cells.map .int), .int k, .int r]), v (.int m), .no, .no, .no] =
        .nxt [.own true (.lst [.lst (cells.map .int), .int (k + 1), .int r2]), v (.int m), v (.int k), v (.int c), .no] := by
      have t : evT (callD T sub wf (n + 1)) sub (.val (.op2 .lt (.op2 .idx (.pk 0) (.cst (.int 2))) (.pk 1))) [.own true (.lst [.lst (cells.map .int), .int k, .int r]), v (.int m), .no, .no, .no] = .ok true [.own true (.lst [.lst (cells.map .int), .int k, .int r]), v (.int m), .no, .no, .no] := by
        simp [hr]
      rw [ev_ifs, t, toS_ok, if_pos rfl]
      have app : ∀ (a b : List IS) (e : Sb.Env), evSs (callD T sub wf (n + 1)) sub wf (a ++ b) e = (evSs (callD T sub wf (n + 1)) sub wf a e).bnd (evSs (callD T sub wf (n + 1)) sub wf b) := fun a b => by
        induction a with
        | nil => intro e; rw [List.nil_append, ev_ss0, nxt_bnd]
        | cons x a ih =>
          intro e
          rw [List.cons_append, ev_ss1, ev_ss1]
          cases evS (callD T sub wf (n + 1)) sub wf x e with
          | nxt e1 => exact ih e1
          | _ => rfl
      rw [show ∀ a b c d f : IS, [a, b, c, d, f] = [a, b, c] ++ [d, f] from fun _ _ _ _ _ => rfl, app, hcell, nxt_bnd]
      simp [hsp]
    rw [ev_ss1, body, nxt_bnd]
    simp [m0, mA]
  · have b := fmod_bd (x := r) (p := m) (by omega)
    refine ⟨r.fmod m, .lst [.lst (cells.map .int), .int k, .int (r.fdiv m)], ⟨cells, k, r.fdiv m, rfl, hc, by omega, by omega⟩, b.1, b.2, ?_⟩
    rw [call_eq (hT 15 _ rfl) rfl]
    simp [B.b15, hr, m0, mA]
theorem e_oneof (hT : Ext T) {K : Nat} {p : D} {ds : List D} (hp : Pen K p) (hB : K ≤ 1000000) (h1 : ds ≠ []) (h2 : ds.length ≤ 1000) :
    ∃ (d : D) (p' : D), Pen (K + 1) p' ∧ d ∈ ds ∧ callD T sub wf (n + 3) 16 [.own true p, v (.lst ds)] = .ok false d [.own true p', v (.lst ds)] := by
  have hl : ds.length ≠ 0 := fun z => h1 (List.length_eq_zero_iff.mp z)
  obtain ⟨t, p', hp', t0, tm, c⟩ := e_take (sub := sub) (wf := wf) (n := n) hT (m := ds.length) hp hB (by omega) (by omega)
  obtain ⟨j, rfl⟩ := Int.eq_ofNat_of_zero_le t0
  have hj : j < ds.length := by omega
  refine ⟨ds[j], p', hp', List.getElem_mem hj, ?_⟩
  rw [call_eq (hT 16 _ rfl) rfl]
  have g : ds[j]? = some ds[j] := List.getElem?_eq_getElem hj
  simp [B.b16, c, g]
/-! ### orders -/
theorem e_names (hT : Ext T) {K : Nat} {p : D} {m : Int} (hp : Pen K p) (hB : K + 100 ≤ 1000000) (h0 : 0 ≤ m) (hm : m ≤ 100) :
    ∃ (ns : List Int) (p' : D), Pen (K + 100) p' ∧ ns.Perm (rng m) ∧ callD T sub wf (n + 3) 19 [.own true p, v (.int m)] = .ok true (.lst (ns.map .int)) [.own true p', v (.int m)] := by
  rw [call_eq (hT 19 _ rfl) rfl]
  have g1 : -4611686018427387904 ≤ m := by omega
  have g2 : m ≤ 100000 := by omega
  have r := rng_D m
  -- one after the other
  have loop : ∀ (k : Nat) (left found : List Int) (q : D) (b : Nat) (t : Slot) (xs : List Int), xs.length = k → left.length = k → Pen b q → b + k ≤ K + 100 → found.length + k ≤ 100 → t.pin = false →
      ∃ (q' : D) (ns : List Int) (t' : Slot) (l' : List Int), Pen (b + k) q' ∧ ns.Perm (found ++ left) ∧ loopF (turn (callD T sub wf (n + 2)) sub wf (.nm 4) [.app 3 (.popAt 2 (.call 15 [.io 0, .e (.op1 .len (.pk 2))]))]) (xs.map .int)
        [.own true q, v (.int m), .own false (.lst (left.map .int)), .own false (.lst (found.map .int)), t] = .nxt [.own true q', v (.int m), .own false (.lst (l'.map .int)), .own false (.lst (ns.map .int)), t'] := by
    intro k
    induction k with
    | zero =>
      intro left found q b t xs hx hl hq _ _ ht
      have e1 : xs = [] := List.length_eq_zero_iff.mp hx
      have e2 : left = [] := List.length_eq_zero_iff.mp hl
      subst e1 e2
      exact ⟨q, found, t, [], hq, by simp, rfl⟩
    | succ k ih =>
      intro left found q b t xs hx hl hq hb hf ht
      cases xs with
      | nil => cases hx
      | cons x xs =>
        obtain ⟨i, q1, hq1, i0, im, c⟩ := e_take (sub := sub) (wf := wf) (n := n) hT (m := left.length) hq (by omega) (by omega) (by omega)
        obtain ⟨j, rfl⟩ := Int.eq_ofNat_of_zero_le i0
        have hj : j < left.length := by omega
        obtain ⟨q2, ns, t', l', a1, a2, a3⟩ := ih (left.eraseIdx j) (found ++ [left[j]]) q1 (b + 1) (v (.int x)) xs (by simpa using hx) (by rw [List.length_eraseIdx, if_pos hj]; omega) hq1 (by omega) (by simp; omega) rfl
        refine ⟨q2, ns, t', l', a1.mono (by omega), a2.trans ?_, ?_⟩
        · rw [List.append_assoc]
          refine List.Perm.append_left _ ?_
          exact perm_erase hj
        · rw [List.map_cons, loopF]
          have g : (left.map D.int)[j]? = some (.int left[j]) := by rw [List.getElem?_map, List.getElem?_eq_getElem hj]; rfl
          have l1 : left.length ≤ lim := by have : lim = 100000 := rfl; omega
          have l2 : found.length < lim := by have : lim = 100000 := rfl; omega
          have st : turn (callD T sub wf (n + 2)) sub wf (.nm 4) [.app 3 (.popAt 2 (.call 15 [.io 0, .e (.op1 .len (.pk 2))]))] (.int x) [.own true q, v (.int m), .own false (.lst (left.map .int)), .own false (.lst (found.map .int)), t] =
              .nxt [.own true q1, v (.int m), .own false (.lst ((left.eraseIdx j).map .int)), .own false (.lst ((found ++ [left[j]]).map .int)), v (.int x)] := by
            have er : (left.map D.int).eraseIdx j = (left.eraseIdx j).map D.int := erase_map
            simp [turn, ht, c, hj, g, l1, l2, er]
          rw [st]
          exact a3
  obtain ⟨q', ns, t', l', a1, a2, a3⟩ := loop m.toNat (rng m) [] p K .no (rng m) (rng_len m) (rng_len m) hp (by omega) (by simp; omega) rfl
  refine ⟨ns, q', a1.mono (by omega), by simpa using a2, ?_⟩
  have e0 : evS (callD T sub wf (n + 2)) sub wf (.par [2, 3] [.op1 .rng1 (.pk 1), .lst []]) [.own true p, v (.int m), .no, .no, .no] = .nxt [.own true p, v (.int m), .own false (.lst ((rng m).map .int)), .own false (.lst []), .no] := by
    have o : op1D .rng1 (.int m) = some (true, .lst ((rng m).map .int)) := by
      show (if decide (-(2 ^ 62) ≤ m) && decide (m ≤ (lim : Int)) then oLst ((List.range m.toNat).map fun (k : Nat) => .int k) else none) = _
      rw [if_pos (by simp only [Bool.and_eq_true, decide_eq_true_eq]; exact ⟨by omega, by have : (lim : Int) = 100000 := rfl; omega⟩), r]
      rfl
    generalize (rng m).map D.int = G at *
    simp [o]
  have e1 : evI (callD T sub wf (n + 2)) sub (.rng1 (.pk 1)) [.own true p, v (.int m), .own false (.lst ((rng m).map .int)), .own false (.lst []), .no] = .ok ((rng m).map .int) [.own true p, v (.int m), .own false (.lst ((rng m).map .int)), .own false (.lst []), .no] := by
    generalize (rng m).map D.int = G at *
    simp [g1, g2, r]
  simp only [B.b19, List.cons_append, List.nil_append, List.replicate, ev_ss1, e0, nxt_bnd, ev_for, e1, toS_ok]
  simp only [List.map_nil] at a3
  rw [a3]
  simp
end
end M

set_option Elab.async false
set_option linter.all false
set_option maxRecDepth 100000
/-! Ties put together, named anew. -/
namespace M
open PySem Sb
def norm (p : Int × Int) : Int × Int := (if p.2 < p.1 then p.2 else p.1, if p.2 > p.1 then p.2 else p.1)
def okRaw (n : Int) (p : Int × Int) : Bool := decide (0 ≤ p.1) && decide (p.1 < n) && decide (0 ≤ p.2) && decide (p.2 < n) && decide (p.1 ≠ p.2)
structure Raw (n : Int) (ps : Ties) : Prop where
  ok : ∀ p ∈ ps, okRaw n p = true
  nd : (ps.map norm).Nodup
  conn : ∀ P : Int → Prop, P 0 → (∀ p ∈ ps, (P p.1 ↔ P p.2)) → ∀ x, 0 ≤ x → x < n → P x
theorem okRaw_iff {n : Int} {p : Int × Int} : okRaw n p = true ↔ 0 ≤ p.1 ∧ p.1 < n ∧ 0 ≤ p.2 ∧ p.2 < n ∧ p.1 ≠ p.2 := by
  unfold okRaw
  simp only [Bool.and_eq_true, decide_eq_true_eq]
  constructor
  · rintro ⟨⟨⟨⟨a, b⟩, c⟩, d⟩, e⟩; exact ⟨a, b, c, d, e⟩
  · rintro ⟨a, b, c, d, e⟩; exact ⟨⟨⟨⟨a, b⟩, c⟩, d⟩, e⟩
theorem conn_of {n : Int} {ps : Ties} (hok : ∀ p ∈ ps, okRaw n p = true) (h0 : 0 < n) (hl : ((reach ps 0 none).length : Int) = n) : ∀ P : Int → Prop, P 0 → (∀ p ∈ ps, (P p.1 ↔ P p.2)) → ∀ x, 0 ≤ x → x < n → P x := by
  intro P p0 hp x hx0 hxn
  have nr : ∀ b y, y ∈ near ps b → 0 ≤ y ∧ y < n := fun b y h => by
    obtain ⟨p, hp, ⟨_, e⟩ | ⟨_, e⟩⟩ := near_mem.mp h <;> have := okRaw_iff.mp (hok p hp) <;> omega
  have sub : ∀ x ∈ reach ps 0 none, x ∈ rng n := fun x hx => reach_ind (fun x => x ∈ rng n) (rng_mem.mpr (by omega)) (fun x _ o ho _ => rng_mem.mpr (nr _ _ ho)) x hx
  have all := full reach_closed.1 sub (by rw [rng_len]; omega)
  refine reach_ind P p0 (fun y py o ho _ => ?_) x (all x (rng_mem.mpr ⟨hx0, hxn⟩))
  obtain ⟨p, hpm, ⟨e1, e2⟩ | ⟨e1, e2⟩⟩ := near_mem.mp ho
  · rw [e2]; exact (hp p hpm).mp (by rw [e1]; exact py)
  · rw [e2]; exact (hp p hpm).mpr (by rw [e1]; exact py)
def rawB (n : Int) (ps : Ties) : Bool := ps.all (okRaw n) && decide ((ps.map norm).Nodup) && decide (((reach ps 0 none).length : Int) = n) && decide (0 < n) && decide (ps.length ≤ 10)
theorem raw_of {n : Int} {ps : Ties} (h : rawB n ps = true) : Raw n ps ∧ ps.length ≤ 10 := by
  unfold rawB at h
  simp only [Bool.and_eq_true, decide_eq_true_eq, List.all_eq_true] at h
  obtain ⟨⟨⟨⟨h1, h2⟩, h3⟩, h4⟩, h5⟩ := h
  exact ⟨⟨h1, h2, conn_of h1 h4 h3⟩, h5⟩
theorem norm_eq {p q : Int × Int} : norm p = norm q ↔ (p.1 = q.1 ∧ p.2 = q.2) ∨ (p.1 = q.2 ∧ p.2 = q.1) := by
  obtain ⟨a, b⟩ := p
  obtain ⟨c, d⟩ := q
  unfold norm
  simp only [Prod.mk.injEq]
  constructor
  · rintro ⟨h1, h2⟩
    split at h1 <;> split at h1 <;> split at h2 <;> split at h2 <;> omega
  · rintro (⟨rfl, rfl⟩ | ⟨rfl, rfl⟩)
    · exact ⟨rfl, rfl⟩
    · constructor
      · split <;> split <;> omega
      · split <;> split <;> omega
theorem nodup_map {α β : Type} {f : α → β} : ∀ {l : List α}, l.Nodup → (∀ x ∈ l, ∀ y ∈ l, f x = f y → x = y) → (l.map f).Nodup
  | [], _, _ => List.nodup_nil
  | x :: l, h, k => by
    obtain ⟨h1, h2⟩ := List.nodup_cons.mp h
    rw [List.map_cons]
    refine List.nodup_cons.mpr ⟨fun z => ?_, nodup_map h2 fun a ha b hb => k a (List.mem_cons_of_mem _ ha) b (List.mem_cons_of_mem _ hb)⟩
    obtain ⟨y, hy, e⟩ := List.mem_map.mp z
    have := k y (List.mem_cons_of_mem _ hy) x List.mem_cons_self e
    exact h1 (by rw [← this]; exact hy)
theorem nodup_of_map {α β : Type} {f : α → β} : ∀ {l : List α}, (l.map f).Nodup → l.Nodup ∧ (∀ x ∈ l, ∀ y ∈ l, f x = f y → x = y)
  | [], _ => ⟨List.nodup_nil, fun _ h => nomatch h⟩
  | x :: l, h => by
    rw [List.map_cons] at h
    obtain ⟨h1, h2⟩ := List.nodup_cons.mp h
    obtain ⟨i1, i2⟩ := nodup_of_map h2
    refine ⟨List.nodup_cons.mpr ⟨fun z => h1 (List.mem_map.mpr ⟨x, z, rfl⟩), i1⟩, fun a ha b hb e => ?_⟩
    rcases List.mem_cons.mp ha with ea | ea <;> rcases List.mem_cons.mp hb with eb | eb
    · rw [ea, eb]
    · rw [ea] at e; exact (h1 (by rw [e]; exact List.mem_map.mpr ⟨b, eb, rfl⟩)).elim
    · rw [eb] at e; exact (h1 (by rw [← e]; exact List.mem_map.mpr ⟨a, ea, rfl⟩)).elim
    · exact i2 a ea b eb e
/-- by names without repeats the ties stay apart -/
theorem norm_names {n : Int} {ps : Ties} {f : Int → Int} (r : Raw n ps) (inj : ∀ x y, 0 ≤ x → x < n → 0 ≤ y → y < n → f x = f y → x = y) : (ps.map fun p => norm (f p.1, f p.2)).Nodup := by
  obtain ⟨n1, n2⟩ := nodup_of_map r.nd
  refine nodup_map n1 fun p hp q hq e => n2 p hp q hq ?_
  have a := okRaw_iff.mp (r.ok p hp)
  have b := okRaw_iff.mp (r.ok q hq)
  rcases norm_eq.mp e with ⟨e1, e2⟩ | ⟨e1, e2⟩
  · exact norm_eq.mpr (.inl ⟨inj _ _ a.1 a.2.1 b.1 b.2.1 e1, inj _ _ a.2.2.1 a.2.2.2.1 b.2.2.1 b.2.2.2.1 e2⟩)
  · exact norm_eq.mpr (.inr ⟨inj _ _ a.1 a.2.1 b.2.2.1 b.2.2.2.1 e1, inj _ _ a.2.2.1 a.2.2.2.1 b.1 b.2.1 e2⟩)
/-- a block put at a bay -/
theorem Raw.glue {n k : Int} {ps qs : Ties} {at_ : Int} (r : Raw n ps) (s : Raw k qs) (h0 : 0 ≤ at_) (hn : at_ < n) (hk : 1 ≤ k) :
    Raw (n + k - 1) (ps ++ qs.map fun p => ((if p.1 = 0 then at_ else n + p.1 - 1), (if p.2 = 0 then at_ else n + p.2 - 1))) := by
  obtain ⟨f, hf⟩ : ∃ f : Int → Int, f = fun x => if x = 0 then at_ else n + x - 1 := ⟨_, rfl⟩
  have fz : f 0 = at_ := by rw [hf]; simp
  have fs : ∀ x, x ≠ 0 → f x = n + x - 1 := fun x h => by rw [hf]; simp [h]
  have inj : ∀ x y, 0 ≤ x → x < k → 0 ≤ y → y < k → f x = f y → x = y := fun x y hx _ hy _ e => by
    by_cases h1 : x = 0 <;> by_cases h2 : y = 0
    · omega
    · rw [h1, fz, fs y h2] at e; omega
    · rw [h2, fz, fs x h1] at e; omega
    · rw [fs x h1, fs y h2] at e; omega
  have eqs : (qs.map fun p => ((if p.1 = 0 then at_ else n + p.1 - 1), (if p.2 = 0 then at_ else n + p.2 - 1))) = qs.map fun p => (f p.1, f p.2) := by rw [hf]
  rw [eqs]
  have fb : ∀ x, 0 ≤ x → x < k → 0 ≤ f x ∧ f x < n + k - 1 := fun x h1 h2 => by
    by_cases h : x = 0
    · rw [h, fz]; omega
    · rw [fs x h]; omega
  refine ⟨fun p hp => ?_, ?_, fun P p0 hP x hx0 hxn => ?_⟩
  · rcases List.mem_append.mp hp with z | z
    · have := okRaw_iff.mp (r.ok p z)
      exact okRaw_iff.mpr (by omega)
    · obtain ⟨q, hq, rfl⟩ := List.mem_map.mp z
      have a := okRaw_iff.mp (s.ok q hq)
      have b1 := fb q.1 a.1 a.2.1
      have b2 := fb q.2 a.2.2.1 a.2.2.2.1
      have : f q.1 ≠ f q.2 := fun e => a.2.2.2.2 (inj _ _ a.1 a.2.1 a.2.2.1 a.2.2.2.1 e)
      exact okRaw_iff.mpr ⟨b1.1, b1.2, b2.1, b2.2, this⟩
  · rw [List.map_append, List.map_map]
    refine List.nodup_append.mpr ⟨r.nd, norm_names s inj, fun u hu w hw e => ?_⟩
    obtain ⟨p, hp, rfl⟩ := List.mem_map.mp hu
    obtain ⟨q, hq, rfl⟩ := List.mem_map.mp hw
    have a := okRaw_iff.mp (r.ok p hp)
    have b := okRaw_iff.mp (s.ok q hq)
    have big : n ≤ f q.1 ∨ n ≤ f q.2 := by
      by_cases h : q.1 = 0
      · have h2 : q.2 ≠ 0 := fun z => b.2.2.2.2 (by rw [h, z])
        right; rw [fs _ h2]; omega
      · left; rw [fs _ h]; omega
    rcases norm_eq.mp e with ⟨e1, e2⟩ | ⟨e1, e2⟩ <;> simp only at e1 e2 <;> omega
  · have base := r.conn P p0 fun p hp => hP p (List.mem_append_left _ hp)
    by_cases hx : x < n
    · exact base x hx0 hx
    · have := s.conn (fun y => P (f y)) (by simp only [fz]; exact base at_ h0 hn) (fun q hq => hP (f q.1, f q.2) (List.mem_append_right _ (List.mem_map.mpr ⟨q, hq, rfl⟩))) (x - n + 1) (by omega) (by omega)
      rw [fs _ (by omega), show n + (x - n + 1) - 1 = x by omega] at this
      exact this
/-- ties more -/
theorem Raw.more {n : Int} {ps cs : Ties} (r : Raw n ps) (hok : ∀ p ∈ cs, okRaw n p = true) (nd : ((ps ++ cs).map norm).Nodup) : Raw n (ps ++ cs) :=
  ⟨fun p hp => (List.mem_append.mp hp).elim (r.ok p) (hok p), nd, fun P p0 hP => r.conn P p0 fun p hp => hP p (List.mem_append_left _ hp)⟩
theorem insP_perm (x : Int × Int) : ∀ l : Ties, (insP x l).Perm (x :: l)
  | [] => .refl _
  | y :: l => by
    simp only [insP]
    split
    · exact .refl _
    · exact ((insP_perm x l).cons y).trans (List.Perm.swap _ _ _)
theorem srtP_perm : ∀ l : Ties, (srtP l).Perm l
  | [] => .refl _
  | x :: l => (insP_perm x (srtP l)).trans ((srtP_perm l).cons x)
/-- the bays named anew -/
theorem Raw.web {n : Int} {ps : Ties} {f : Int → Int} (r : Raw n ps) (h2 : 2 ≤ n) (h40 : n ≤ 40) (hl : ps.length < 64) (inj : ∀ x y, 0 ≤ x → x < n → 0 ≤ y → y < n → f x = f y → x = y) (on : ∀ y, 0 ≤ y → y < n → ∃ x, 0 ≤ x ∧ x < n ∧ f x = y)
    (to : ∀ x, 0 ≤ x → x < n → 0 ≤ f x ∧ f x < n) : Web n (srtP (ps.map fun p => norm (f p.1, f p.2))) := by
  have mem : ∀ q, q ∈ srtP (ps.map fun p => norm (f p.1, f p.2)) ↔ ∃ p ∈ ps, norm (f p.1, f p.2) = q := fun q => by rw [srtP_mem, List.mem_map]
  have ok : ∀ q ∈ srtP (ps.map fun p => norm (f p.1, f p.2)), okTie n q = true := fun q hq => by
    obtain ⟨p, hp, rfl⟩ := (mem q).mp hq
    have a := okRaw_iff.mp (r.ok p hp)
    have b1 := to p.1 a.1 a.2.1
    have b2 := to p.2 a.2.2.1 a.2.2.2.1
    have b3 : f p.1 ≠ f p.2 := fun e => a.2.2.2.2 (inj _ _ a.1 a.2.1 a.2.2.1 a.2.2.2.1 e)
    rw [okTie_iff]
    unfold norm
    simp only
    split <;> split <;> omega
  have few : (srtP (ps.map fun p => norm (f p.1, f p.2))).length < 64 := by rw [(srtP_perm _).length_eq, List.length_map]; exact hl
  refine ⟨h2, h40, ok, srtP_inc (norm_names r inj), ?_, few⟩
  -- all is reached
  obtain ⟨Z, hZ⟩ : ∃ Z, Z = srtP (ps.map fun p => norm (f p.1, f p.2)) := ⟨_, rfl⟩
  rw [← hZ] at ok few mem ⊢
  have nr : ∀ b y, y ∈ near Z b → 0 ≤ y ∧ y < n := fun b y h => by
    obtain ⟨p, hp, ⟨_, e⟩ | ⟨_, e⟩⟩ := near_mem.mp h <;> have := okTie_iff.mp (ok p hp) <;> omega
  have sub : ∀ x ∈ reach Z 0 none, x ∈ rng n := fun x hx => reach_ind (fun x => x ∈ rng n) (rng_mem.mpr (by omega)) (fun x _ o ho _ => rng_mem.mpr (nr _ _ ho)) x hx
  -- the walk ends
  have fin : dstep Z none (run (dstep Z none) (2 * Z.length + 2) ([0], [0])) = none := by
    have key : ∀ (k : Nat) (s : St2), lft (ends Z) s ≤ k → dstep Z none (run (dstep Z none) k s) = none := fun k => by
      induction k with
      | zero =>
        intro s hs
        show dstep Z none s = none
        cases q : dstep Z none s with
        | none => rfl
        | some s' => have := dstep_less q; omega
      | succ k ih =>
        intro s hs
        rw [run]
        cases q : dstep Z none s with
        | none => exact q
        | some s' => exact ih s' (by have := dstep_less q; omega)
    exact key _ _ (by have := (lft0 Z 0).1; omega)
  obtain ⟨c1, c2, c3⟩ := reach_closed (ts := Z) (b := 0)
  have cl := c3 fin
  have iff_ : ∀ p ∈ ps, (f p.1 ∈ reach Z 0 none ↔ f p.2 ∈ reach Z 0 none) := fun p hp => by
    have hm : norm (f p.1, f p.2) ∈ Z := (mem _).mpr ⟨p, hp, rfl⟩
    have n1 : f p.2 ∈ near Z (f p.1) := by
      refine near_mem.mpr ⟨_, hm, ?_⟩
      unfold norm
      by_cases h : f p.2 < f p.1
      · have h' : ¬ f p.2 > f p.1 := by omega
        right; simp [h, h']
      · by_cases h3 : f p.2 > f p.1
        · left; simp [h, h3]
        · have : f p.1 = f p.2 := by omega
          left; simp [this]
    exact ⟨fun z => cl _ z _ n1, fun z => cl _ z _ (near_symm.mp n1)⟩
  have step := r.conn (fun x => f x ∈ reach Z 0 none ↔ f 0 ∈ reach Z 0 none) Iff.rfl fun p hp => by
    have := iff_ p hp
    constructor
    · intro h; exact this.symm.trans h
    · intro h; exact this.trans h
  obtain ⟨x0, a1, a2, a3⟩ := on 0 (by omega) (by omega)
  have f0 : f 0 ∈ reach Z 0 none := (step x0 a1 a2).mp (by rw [a3]; exact c2)
  have all : ∀ y ∈ rng n, y ∈ reach Z 0 none := fun y hy => by
    have hy := rng_mem.mp hy
    obtain ⟨x, b1, b2, b3⟩ := on y hy.1 hy.2
    rw [← b3]
    exact (step x b1 b2).mpr f0
  have l1 := nd_len c1 sub
  have l2 := nd_len (rng_nd n) all
  rw [rng_len] at l1 l2
  omega
end M

set_option Elab.async false
set_option linter.all false
set_option maxRecDepth 100000
/-! Blocks drawn. -/
namespace M
open PySem Sb
def row (e0 e1 f : Int) (k : Nat) : List Int := e0 :: ((List.range k).map fun (i : Nat) => f + i) ++ [e1]
def waysP (e0 e1 : Int) : List Int → Int → Ties
  | [], _ => []
  | k :: ks, f => ((row e0 e1 f k.toNat).zip ((row e0 e1 f k.toNat).drop 1)) ++ waysP e0 e1 ks (f + k)
theorem zip_ints (a b : List Int) : ((a.map D.int).zip (b.map D.int)).map (fun p => D.tup [p.1, p.2]) = (a.zip b).map pD := by
  rw [List.zip_map, List.map_map]; rfl
theorem o_zipl {x y : List D} : op2D .zipl (.lst x) (.lst y) = some (true, .lst ((x.zip y).map fun p => .tup [p.1, p.2])) := rfl
theorem o_rng2 {m n : Int} (h1 : -100000 ≤ m) (h2 : m ≤ 100000) (h3 : -100000 ≤ n) (h4 : n ≤ 100000) : op2D .rng2 (.int m) (.int n) = some (true, .lst ((List.range (n - m).toNat).map fun (k : Nat) => .int (m + k))) := by
  show (if decide (-(lim : Int) ≤ m) && decide (m ≤ lim) && decide (-(lim : Int) ≤ n) && decide (n ≤ lim) then oLst _ else none) = _
  rw [if_pos]
  · rfl
  · have e : (lim : Int) = 100000 := rfl
    rw [e]
    simp [h1, h2, h3, h4]
section
variable {T : Nat → Option Def} {sub : Nat → Nat → Bool} {wf n : Nat}
theorem e_ways (hT : Ext T) {e0 e1 first : Int} {ls : List Int} (hf : 0 ≤ first) (hf2 : first ≤ 10) (hl : ls.length ≤ 10) (hk : ∀ k ∈ ls, 0 ≤ k ∧ k ≤ 100) :
    callD T sub wf (n + 1) 21 [v (.tup [.int e0, .int e1]), v (.lst (ls.map .int)), v (.int first)] = .ok true (.lst ((waysP e0 e1 ls first).map pD)) [v (.tup [.int e0, .int e1]), v (.lst (ls.map .int)), v (.int first)] := by
  rw [call_eq (hT 21 _ rfl) rfl]
  have loop : ∀ (ks : List Int) (f : Int) (done : Ties) (s4 s5 : Slot), (∀ k ∈ ks, 0 ≤ k ∧ k ≤ 100) → 0 ≤ f → f + 100 * ks.length ≤ 2000 → done.length + 102 * ks.length ≤ 2000 → s4.pin = false → s5.pin = false →
      ∃ f' t4 t5, loopF (turn (callD T sub wf n) sub wf (.nm 4) [.asg 5 (.op2 .add (.op2 .add (.lst [.op2 .idx (.pk 0) (.cst (.int 0))]) (.op2 .rng2 (.pk 2) (.op2 .add (.pk 2) (.pk 4)))) (.lst [.op2 .idx (.pk 0) (.cst (.int 1))])),
        .par [3, 2] [.op2 .add (.pk 3) (.op2 .zipl (.pk 5) (.sl (.pk 5) (.e (.cst (.int 1))) (.no))), .op2 .add (.pk 2) (.pk 4)]]) (ks.map .int) [v (.tup [.int e0, .int e1]), v (.lst (ls.map .int)), v (.int f), .own false (.lst (done.map pD)), s4, s5] =
        .nxt [v (.tup [.int e0, .int e1]), v (.lst (ls.map .int)), v (.int f'), .own false (.lst ((done ++ waysP e0 e1 ks f).map pD)), t4, t5] := by
    intro ks
    induction ks with
    | nil => intro f done s4 s5 _ _ _ _ _ _; exact ⟨f, s4, s5, by simp [loopF, waysP]⟩
    | cons k ks ih =>
      intro f done s4 s5 hk hf hb hd h4 h5
      have hk1 := hk k List.mem_cons_self
      simp only [List.length_cons] at hb hd
      obtain ⟨R, hR⟩ : ∃ R, R = row e0 e1 f k.toNat := ⟨_, rfl⟩
      have hRl : R.length = k.toNat + 2 := by rw [hR]; simp [row]
      obtain ⟨Z, hZ⟩ : ∃ Z, Z = R.zip (R.drop 1) := ⟨_, rfl⟩
      have hZl : Z.length ≤ 101 := by rw [hZ, List.length_zip, List.length_drop, hRl]; omega
      obtain ⟨f', t4, t5, q⟩ := ih (f + k) (done ++ Z) (v (.int k)) (.own false (.lst (R.map .int))) (fun x hx => hk x (List.mem_cons_of_mem _ hx)) (by omega) (by omega) (by rw [List.length_append]; omega) rfl rfl
      refine ⟨f', t4, t5, ?_⟩
      have r2 := o_rng2 (m := f) (n := f + k) (by omega) (by omega) (by omega) (by omega)
      rw [show f + k - f = k by omega] at r2
      have hG : D.int e0 :: (((List.range k.toNat).map fun (i : Nat) => D.int (f + i)) ++ [.int e1]) = R.map .int := by rw [hR]; simp [row]
      have lG : ((List.range k.toNat).map fun (i : Nat) => D.int (f + i)).length = k.toNat := by simp
      have l1 : 1 + k.toNat ≤ lim := by have : lim = 100000 := rfl; omega
      have l2 : 1 + k.toNat + 1 ≤ lim := by have : lim = 100000 := rfl; omega
      have zz : ((R.map D.int).zip ((R.map D.int).drop 1)).map (fun p => D.tup [p.1, p.2]) = Z.map pD := by rw [← List.map_drop, zip_ints, hZ]
      have l3 : done.length + Z.length ≤ lim := by have : lim = 100000 := rfl; omega
      have c1 : evS (callD T sub wf n) sub wf (.asg 5 (.op2 .add (.op2 .add (.lst [.op2 .idx (.pk 0) (.cst (.int 0))]) (.op2 .rng2 (.pk 2) (.op2 .add (.pk 2) (.pk 4)))) (.lst [.op2 .idx (.pk 0) (.cst (.int 1))]))) [v (.tup [.int e0, .int e1]), v (.lst (ls.map .int)), v (.int f), .own false (.lst (done.map pD)), v (.int k), s5] =
          .nxt [v (.tup [.int e0, .int e1]), v (.lst (ls.map .int)), v (.int f), .own false (.lst (done.map pD)), v (.int k), .own false (.lst (R.map .int))] := by
        generalize ((List.range k.toNat).map fun (i : Nat) => D.int (f + i)) = G at *
        have a1 : 1 + G.length ≤ lim := by omega
        have a2 : 1 + G.length + 1 ≤ lim := by omega
        have a3 : G.length + 1 + 1 ≤ lim := by omega
        rw [← hG]
        simp [h5, r2, a1, a2, a3]
      have c2 : evS (callD T sub wf n) sub wf (.par [3, 2] [.op2 .add (.pk 3) (.op2 .zipl (.pk 5) (.sl (.pk 5) (.e (.cst (.int 1))) (.no))), .op2 .add (.pk 2) (.pk 4)]) [v (.tup [.int e0, .int e1]), v (.lst (ls.map .int)), v (.int f), .own false (.lst (done.map pD)), v (.int k), .own false (.lst (R.map .int))] =
          .nxt [v (.tup [.int e0, .int e1]), v (.lst (ls.map .int)), v (.int (f + k)), .own false (.lst ((done ++ Z).map pD)), v (.int k), .own false (.lst (R.map .int))] := by
        generalize R.map D.int = G at *
        have l4 : (Z.map pD).length = Z.length := List.length_map ..
        generalize hZp : Z.map pD = Zp at *
        have l5 : done.length + Zp.length ≤ lim := by rw [l4]; exact l3
        simp [slD, oLst, cutD_1, o_zipl, zz, l5, hZp, -List.drop_one, -List.map_tail]
      rw [List.map_cons, loopF]
      have st : turn (callD T sub wf n) sub wf (.nm 4) [.asg 5 (.op2 .add (.op2 .add (.lst [.op2 .idx (.pk 0) (.cst (.int 0))]) (.op2 .rng2 (.pk 2) (.op2 .add (.pk 2) (.pk 4)))) (.lst [.op2 .idx (.pk 0) (.cst (.int 1))])),
        .par [3, 2] [.op2 .add (.pk 3) (.op2 .zipl (.pk 5) (.sl (.pk 5) (.e (.cst (.int 1))) (.no))), .op2 .add (.pk 2) (.pk 4)]] (.int k) [v (.tup [.int e0, .int e1]), v (.lst (ls.map .int)), v (.int f), .own false (.lst (done.map pD)), s4, s5] =
          .nxt [v (.tup [.int e0, .int e1]), v (.lst (ls.map .int)), v (.int (f + k)), .own false (.lst ((done ++ Z).map pD)), v (.int k), .own false (.lst (R.map .int))] := by
        unfold turn
        rw [show asgT (.nm 4) (.int k) [v (.tup [.int e0, .int e1]), v (.lst (ls.map .int)), v (.int f), .own false (.lst (done.map pD)), s4, s5] = some [v (.tup [.int e0, .int e1]), v (.lst (ls.map .int)), v (.int f), .own false (.lst (done.map pD)), v (.int k), s5] by simp [h4], optB_some, ev_ss1, c1, nxt_bnd, ev_ss1, c2, nxt_bnd, ev_ss0]
      rw [st]
      have e : done ++ waysP e0 e1 (k :: ks) f = done ++ Z ++ waysP e0 e1 ks (f + k) := by rw [waysP, hZ, hR, List.append_assoc]
      rw [e]
      exact q
  obtain ⟨f', t4, t5, q⟩ := loop ls first [] .no .no hk hf (by omega) (by simp; omega) rfl rfl
  rw [List.nil_append, List.map_nil] at q
  simp only [B.b21, List.cons_append, List.nil_append, List.replicate, ev_ss1]
  have a1 : evS (callD T sub wf n) sub wf (.asg 3 (.lst [])) [v (.tup [.int e0, .int e1]), v (.lst (ls.map .int)), v (.int first), .no, .no, .no] = .nxt [v (.tup [.int e0, .int e1]), v (.lst (ls.map .int)), v (.int first), .own false (.lst []), .no, .no] := by simp
  have a2 : evI (callD T sub wf n) sub (.seq (.var 1)) [v (.tup [.int e0, .int e1]), v (.lst (ls.map .int)), v (.int first), .own false (.lst []), .no, .no] = .ok (ls.map .int) [v (.tup [.int e0, .int e1]), v (.lst (ls.map .int)), v (.int first), .own false (.lst []), .no, .no] := by simp
  rw [a1, nxt_bnd, ev_ss1, ev_for, a2, toS_ok, q, nxt_bnd]
  simp
end
/-! ### the blocks -/
theorem ring3 : rawB 3 (waysP 0 0 [2] 1) = true := by decide +kernel
theorem ring4 : rawB 4 (waysP 0 0 [3] 1) = true := by decide +kernel
theorem ring5 : rawB 5 (waysP 0 0 [4] 1) = true := by decide +kernel
theorem ring6 : rawB 6 (waysP 0 0 [5] 1) = true := by decide +kernel
theorem ring7 : rawB 7 (waysP 0 0 [6] 1) = true := by decide +kernel
theorem ring_ok {k : Int} (h1 : 3 ≤ k) (h2 : k ≤ 7) : rawB k (waysP 0 0 [k - 1] 1) = true := by
  have : k = 3 ∨ k = 4 ∨ k = 5 ∨ k = 6 ∨ k = 7 := by omega
  rcases this with rfl | rfl | rfl | rfl | rfl
  · exact ring3
  · exact ring4
  · exact ring5
  · exact ring6
  · exact ring7
def rows : List (List Int) := [[1, 1], [1, 1, 1], [0, 1, 1], [0, 2, 2], [1, 1, 2], [1, 1, 1, 1], [0, 2, 1], [0, 3, 1], [1, 2, 1], [0, 1, 1, 1], [1, 2, 2], [1, 2, 2]]
theorem rows_ok : ∀ ls ∈ rows, rawB (ls.sum + 2) (waysP 0 1 ls 2) = true ∧ ls.length ≤ 10 ∧ (∀ k ∈ ls, 0 ≤ k ∧ k ≤ 100) ∧ 0 ≤ ls.sum := by decide +kernel
/-- what may be tied besides, from a -/
def chordsOf (k : Int) (a : Int) : Ties := (((List.range (k - (a + 2)).toNat).map fun (i : Nat) => a + 2 + i).filter fun b => !(decide (a = 0) && decide (b = k - 1))).map fun b => (a, b)
def chords (k : Int) : Ties := (rng k).flatMap (chordsOf k)
theorem chords_ok : ∀ k ∈ ([3, 4, 5] : List Int), (chords k).all (okRaw k) = true ∧ ((waysP 0 0 [k - 1] 1 ++ chords k).map norm).Nodup ∧ (waysP 0 0 [k - 1] 1 ++ chords k).length ≤ 10 := by decide +kernel
theorem chord_raw {k : Int} (h1 : 3 ≤ k) (h2 : k ≤ 5) {cs : Ties} (h : cs.Sublist (chords k)) : Raw k (waysP 0 0 [k - 1] 1 ++ cs) ∧ (waysP 0 0 [k - 1] 1 ++ cs).length ≤ 10 := by
  obtain ⟨c1, c2, c3⟩ := chords_ok k (by
    have : k = 3 ∨ k = 4 ∨ k = 5 := by omega
    rcases this with rfl | rfl | rfl <;> simp)
  have r := (raw_of (ring_ok h1 (by omega))).1
  refine ⟨r.more (fun p hp => (List.all_eq_true.mp c1) p (h.subset hp)) (c2.sublist ((h.append_left _).map norm)), ?_⟩
  have := h.length_le
  rw [List.length_append] at c3 ⊢
  omega
end M

set_option Elab.async false
set_option linter.all false
set_option maxRecDepth 100000
/-! A block drawn. -/
namespace M
open PySem Sb
def lD (ls : List Int) : D := .lst (ls.map .int)
theorem o_sum {ls : List Int} : op1D .sum_ (lD ls) = some (false, .int ls.sum) := by
  show (match intsOf (ls.map .int) with | some ns => oInt ns.sum | none => none) = _
  rw [intsOf_map]; rfl
theorem o_min2l {a b : Int} : op1D .min_ (.lst [.int a, .int b]) = some (false, .int (min a b)) := rfl
theorem o_neT {a b c d : Int} : op2D .ne (.tup [.int a, .int b]) (.tup [.int c, .int d]) = some (false, .bl (!(decide (a = c) && decide (b = d)))) := by
  have h1 : eqOk 20 (.tup [.int a, .int b]) = true := rfl
  have h2 : eqOk 20 (.tup [.int c, .int d]) = true := rfl
  show (if eqOk 20 (.tup [.int a, .int b]) && eqOk 20 (.tup [.int c, .int d]) then oBl (!eqD (.tup [.int a, .int b]) (.tup [.int c, .int d])) else none) = _
  rw [h1, h2]
  simp only [Bool.and_self, if_true, oBl, eqD, eqDs, Bool.and_true]
  by_cases e1 : a = c <;> by_cases e2 : b = d <;> simp [e1, e2]
section
variable {T : Nat → Option Def} {sub : Nat → Nat → Bool} {wf n : Nat}
/-- chords from a, drawn -/
theorem loop_chord (hT : Ext T) {sz fm k a : Int} {R : D} : ∀ (bs : List Int) (q : D) (K : Nat), Pen K q → K + bs.length ≤ 1000000 →
    ∃ (q' : D) (cs : Ties), Pen (K + bs.length) q' ∧ cs.Sublist ((bs.filter fun b => !(decide (a = 0) && decide (b = k - 1))).map fun b => (a, b)) ∧
      loopC (cturn (callD T sub wf (n + 2)) sub [8, 10] (.nm 10) [.and_ (.val (.op2 .ne (.tup [.var 7, .var 10]) (.tup [.cst (.int 0), .op2 .sub (.pk 3) (.cst (.int 1))]))) (.val (.op2 .eq (.call 15 [.io 0, .e (.cst (.int 3))]) (.cst (.int 0))))] (.tup [.var 7, .var 10])) (bs.map .int)
        [.own true q, v (.int sz), v (.int fm), v (.int k), .no, .no, .own false R, v (.int a), .no, .no, .no] = .ok (cs.map pD) [.own true q', v (.int sz), v (.int fm), v (.int k), .no, .no, .own false R, v (.int a), .no, .no, .no]
  | [], q, K, hp, _ => ⟨q, [], hp, by simp, rfl⟩
  | b :: bs, q, K, hp, hK => by
    simp only [List.length_cons] at hK
    have ne := o_neT (a := a) (b := b) (c := 0) (d := k - 1)
    rw [List.filter_cons]
    by_cases hc : a = 0 ∧ b = k - 1
    · have f1 : (!(decide (a = 0) && decide (b = k - 1))) = false := by simp [hc.1, hc.2]
      rw [f1] at ne ⊢
      rw [if_neg (by simp)]
      obtain ⟨q', cs, a1, a2, a3⟩ := loop_chord hT (sz := sz) (fm := fm) (k := k) (a := a) (R := R) bs q K hp (by omega)
      refine ⟨q', cs, a1.mono (by simp only [List.length_cons]; omega), a2, ?_⟩
      rw [List.map_cons, loopC]
      have st : cturn (callD T sub wf (n + 2)) sub [8, 10] (.nm 10) [.and_ (.val (.op2 .ne (.tup [.var 7, .var 10]) (.tup [.cst (.int 0), .op2 .sub (.pk 3) (.cst (.int 1))]))) (.val (.op2 .eq (.call 15 [.io 0, .e (.cst (.int 3))]) (.cst (.int 0))))] (.tup [.var 7, .var 10]) (.int b)
          [.own true q, v (.int sz), v (.int fm), v (.int k), .no, .no, .own false R, v (.int a), .no, .no, .no] = .ok none [.own true q, v (.int sz), v (.int fm), v (.int k), .no, .no, .own false R, v (.int a), .no, .no, .no] := by
        simp [cturn, ne]
      rw [st, bnd_ok, a3, bnd_ok]
    · have f1 : (!(decide (a = 0) && decide (b = k - 1))) = true := by
        by_cases h1 : a = 0
        · have : ¬ b = k - 1 := fun z => hc ⟨h1, z⟩
          simp [this]
        · simp [h1]
      rw [f1] at ne ⊢
      rw [if_pos rfl]
      obtain ⟨t, q1, hq1, _, _, c⟩ := e_take (sub := sub) (wf := wf) (n := n) hT (m := 3) hp (by omega) (by omega) (by omega)
      obtain ⟨q', cs, a1, a2, a3⟩ := loop_chord hT (sz := sz) (fm := fm) (k := k) (a := a) (R := R) bs q1 (K + 1) hq1 (by omega)
      have st : cturn (callD T sub wf (n + 2)) sub [8, 10] (.nm 10) [.and_ (.val (.op2 .ne (.tup [.var 7, .var 10]) (.tup [.cst (.int 0), .op2 .sub (.pk 3) (.cst (.int 1))]))) (.val (.op2 .eq (.call 15 [.io 0, .e (.cst (.int 3))]) (.cst (.int 0))))] (.tup [.var 7, .var 10]) (.int b)
          [.own true q, v (.int sz), v (.int fm), v (.int k), .no, .no, .own false R, v (.int a), .no, .no, .no] = .ok (if t = 0 then some (pD (a, b)) else none) [.own true q1, v (.int sz), v (.int fm), v (.int k), .no, .no, .own false R, v (.int a), .no, .no, .no] := by
        by_cases h : t = 0 <;> simp [cturn, ne, c, h, pD]
      by_cases h : t = 0
      · refine ⟨q', (a, b) :: cs, a1.mono (by simp only [List.length_cons]; omega), by rw [List.map_cons]; exact a2.cons₂ _, ?_⟩
        rw [List.map_cons, loopC, st, bnd_ok, a3, bnd_ok, if_pos h]
        rfl
      · refine ⟨q', cs, a1.mono (by simp only [List.length_cons]; omega), by rw [List.map_cons]; exact a2.cons _, ?_⟩
        rw [List.map_cons, loopC, st, bnd_ok, a3, bnd_ok, if_neg h]
theorem loop_chords (hT : Ext T) {sz fm k : Int} (hk : 3 ≤ k) (hk2 : k ≤ 5) : ∀ (as : List Int) (q : D) (K : Nat) (done : Ties) (s7 : Slot), Pen K q → K + 10 * as.length ≤ 1000000 → (∀ a ∈ as, 0 ≤ a ∧ a < k) → done.length + 10 * as.length ≤ 1000 → s7.pin = false →
    ∃ (q' : D) (cs : Ties) (t7 : Slot), Pen (K + 10 * as.length) q' ∧ cs.Sublist (as.flatMap (chordsOf k)) ∧
      loopF (turn (callD T sub wf (n + 2)) sub wf (.nm 7) [.asg 6 (.op2 .add (.pk 6) (.comp (.rng2 (.op2 .add (.pk 7) (.cst (.int 2))) (.pk 3)) (.nm 10) [8, 10] [.and_ (.val (.op2 .ne (.tup [.var 7, .var 10]) (.tup [.cst (.int 0), .op2 .sub (.pk 3) (.cst (.int 1))]))) (.val (.op2 .eq (.call 15 [.io 0, .e (.cst (.int 3))]) (.cst (.int 0))))] (.tup [.var 7, .var 10])))]) (as.map .int)
        [.own true q, v (.int sz), v (.int fm), v (.int k), .no, .no, .own false (.lst (done.map pD)), s7, .no, .no, .no] = .nxt [.own true q', v (.int sz), v (.int fm), v (.int k), .no, .no, .own false (.lst ((done ++ cs).map pD)), t7, .no, .no, .no]
  | [], q, K, done, s7, hp, _, _, _, _ => ⟨q, [], s7, hp, by simp, by simp [loopF]⟩
  | a :: as, q, K, done, s7, hp, hK, ha, hd, h7 => by
    simp only [List.length_cons] at hK hd
    have ha1 := ha a List.mem_cons_self
    obtain ⟨bs, hbs⟩ : ∃ bs : List Int, bs = (List.range (k - (a + 2)).toNat).map fun (i : Nat) => a + 2 + i := ⟨_, rfl⟩
    have hbl : bs.length ≤ 5 := by rw [hbs]; simp; omega
    obtain ⟨q1, c1, a1, a2, a3⟩ := loop_chord (sub := sub) (wf := wf) (n := n) hT (sz := sz) (fm := fm) (k := k) (a := a) (R := .lst (done.map pD)) bs q K hp (by omega)
    have c1l : c1.length ≤ 5 := by
      have h1 := a2.length_le
      have h2 := List.length_filter_le (fun b => !(decide (a = 0) && decide (b = k - 1))) bs
      rw [List.length_map] at h1
      omega
    obtain ⟨q', c2, t7, b1, b2, b3⟩ := loop_chords hT (sz := sz) (fm := fm) hk hk2 as q1 (K + 10) (done ++ c1) (v (.int a)) (a1.mono (by omega)) (by omega) (fun x hx => ha x (List.mem_cons_of_mem _ hx)) (by rw [List.length_append]; omega) rfl
    refine ⟨q', c1 ++ c2, t7, b1.mono (by simp only [List.length_cons]; omega), ?_, ?_⟩
    · rw [List.flatMap_cons]
      refine List.Sublist.append ?_ b2
      unfold chordsOf
      rw [← hbs]
      exact a2
    · rw [List.map_cons, loopF]
      have it : evI (callD T sub wf (n + 2)) sub (.rng2 (.op2 .add (.pk 7) (.cst (.int 2))) (.pk 3)) [.own true q, v (.int sz), v (.int fm), v (.int k), .no, .no, .own false (.lst (done.map pD)), v (.int a), .no, .no, .no] = .ok (bs.map .int) [.own true q, v (.int sz), v (.int fm), v (.int k), .no, .no, .own false (.lst (done.map pD)), v (.int a), .no, .no, .no] := by
        have e : (List.range (k - (a + 2)).toNat).map (fun (i : Nat) => D.int (a + 2 + i)) = bs.map .int := by rw [hbs, List.map_map]; rfl
        have g1 : -100000 ≤ a + 2 := by omega
        have g2 : a + 2 ≤ 100000 := by omega
        have g3 : -100000 ≤ k := by omega
        have g4 : k ≤ 100000 := by omega
        generalize bs.map D.int = G at *
        simp [e, g1, g2, g3, g4]
      have l1 : (bs.map D.int).length ≤ lim := by have : lim = 100000 := rfl; rw [List.length_map]; omega
      have l2 : (done.map pD).length + (c1.map pD).length ≤ lim := by have : lim = 100000 := rfl; rw [List.length_map, List.length_map]; omega
      have st : turn (callD T sub wf (n + 2)) sub wf (.nm 7) [.asg 6 (.op2 .add (.pk 6) (.comp (.rng2 (.op2 .add (.pk 7) (.cst (.int 2))) (.pk 3)) (.nm 10) [8, 10] [.and_ (.val (.op2 .ne (.tup [.var 7, .var 10]) (.tup [.cst (.int 0), .op2 .sub (.pk 3) (.cst (.int 1))]))) (.val (.op2 .eq (.call 15 [.io 0, .e (.cst (.int 3))]) (.cst (.int 0))))] (.tup [.var 7, .var 10])))] (.int a)
        [.own true q, v (.int sz), v (.int fm), v (.int k), .no, .no, .own false (.lst (done.map pD)), s7, .no, .no, .no] = .nxt [.own true q1, v (.int sz), v (.int fm), v (.int k), .no, .no, .own false (.lst ((done ++ c1).map pD)), v (.int a), .no, .no, .no] := by
        rw [List.map_append]
        generalize bs.map D.int = G at *
        generalize done.map pD = G2 at *
        generalize c1.map pD = G3 at *
        simp [turn, h7, -ev_rng2, it, l1, a3, l2]
      rw [st]
      simp only
      rw [b3, List.append_assoc]
end
end M

set_option Elab.async false
set_option linter.all false
set_option maxRecDepth 100000
/-! A block drawn, whole. -/
namespace M
open PySem Sb
theorem bridge : rawB 2 [(0, 1)] = true := by decide +kernel
theorem rowsD : [D.lst [.int 1, .int 1], .lst [.int 1, .int 1, .int 1], .lst [.int 0, .int 1, .int 1], .lst [.int 0, .int 2, .int 2], .lst [.int 1, .int 1, .int 2], .lst [.int 1, .int 1, .int 1, .int 1], .lst [.int 0, .int 2, .int 1], .lst [.int 0, .int 3, .int 1], .lst [.int 1, .int 2, .int 1], .lst [.int 0, .int 1, .int 1, .int 1], .lst [.int 1, .int 2, .int 2], .lst [.int 1, .int 2, .int 2]] = rows.map lD := rfl
section
variable {T : Nat → Option Def} {sub : Nat → Nat → Bool} {wf n : Nat}
theorem filter_rows {k : Int} : ∀ l : List (List Int), (l.map lD).filterMap (fun x => match x with | .lst ds => (match intsOf ds with | some ns => if ns.sum + 2 ≤ k then some (lD ns) else none | none => none) | _ => none) = (l.filter fun ls => decide (ls.sum + 2 ≤ k)).map lD
  | [] => rfl
  | ls :: l => by
    rw [List.map_cons, List.filterMap_cons, List.filter_cons, filter_rows l]
    simp only [lD, intsOf_map]
    by_cases h : ls.sum + 2 ≤ k <;> simp [h, lD]
theorem e_piece (hT : Ext T) {K : Nat} {p : D} {sz : Int} (hp : Pen K p) (hK : K + 100 ≤ 1000000) (h2 : 2 ≤ sz) (h7 : sz ≤ 7) :
    ∃ (ps : Ties) (k : Int) (p' : D), Pen (K + 100) p' ∧ Raw k ps ∧ ps.length ≤ 10 ∧ 2 ≤ k ∧ k ≤ sz ∧ callD T sub wf (n + 4) 22 [.own true p, v (.int sz)] = .ok false (.tup [.lst (ps.map pD), .int k]) [.own true p', v (.int sz)] := by
  obtain ⟨fm, p1, hp1, f0, f6, c1⟩ := e_take (sub := sub) (wf := wf) (n := n + 1) hT (m := 6) hp (by omega) (by omega) (by omega)
  have st1 : evS (callD T sub wf (n + 3)) sub wf (.asg 2 (.call 15 [.io 0, .e (.cst (.int 6))])) [.own true p, v (.int sz), .no, .no, .no, .no, .no, .no, .no, .no, .no] = .nxt [.own true p1, v (.int sz), v (.int fm), .no, .no, .no, .no, .no, .no, .no, .no] := by
    simp [c1]
  by_cases hA : fm = 0 ∨ sz < 3
  · refine ⟨[(0, 1)], 2, p1, hp1.mono (by omega), (raw_of bridge).1, by simp, by omega, h2, ?_⟩
    rw [call_eq (hT 22 _ rfl) rfl]
    simp only [B.b22, List.cons_append, List.nil_append, List.replicate]
    rw [ev_ss1, st1, nxt_bnd, ev_ss1]
    by_cases h : fm = 0
    · simp [h, pD]
    · have h3 : sz < 3 := hA.resolve_left h
      simp [h, h3, pD]
  · have hf : ¬ fm = 0 := fun z => hA (.inl z)
    have hs : ¬ sz < 3 := fun z => hA (.inr z)
    obtain ⟨t, p2, hp2, t0, tm, c2⟩ := e_take (sub := sub) (wf := wf) (n := n + 1) hT (m := sz - 2) hp1 (by omega) (by omega) (by omega)
    have kk : 3 ≤ 3 + t ∧ 3 + t ≤ sz := by omega
    obtain ⟨k, hk⟩ : ∃ k, k = 3 + t := ⟨_, rfl⟩
    rw [← hk] at kk
    have test1 : evT (callD T sub wf (n + 3)) sub (.or_ (.val (.op2 .eq (.pk 2) (.cst (.int 0)))) (.val (.op2 .lt (.pk 1) (.cst (.int 3))))) [.own true p1, v (.int sz), v (.int fm), .no, .no, .no, .no, .no, .no, .no, .no] = .ok false [.own true p1, v (.int sz), v (.int fm), .no, .no, .no, .no, .no, .no, .no, .no] := by
      simp [hf, hs]
    by_cases h1 : fm = 1
    · obtain ⟨r1, r2⟩ := raw_of (ring_ok kk.1 (by omega : k ≤ 7))
      refine ⟨_, k, p2, hp2.mono (by omega), r1, r2, by omega, kk.2, ?_⟩
      have c3 := e_ways (sub := sub) (wf := wf) (n := n + 2) hT (e0 := 0) (e1 := 0) (first := 1) (ls := [k - 1]) (by omega) (by omega) (by simp) (by intro x hx; rw [List.mem_singleton.mp hx]; omega)
      simp only [List.map_cons, List.map_nil] at c3
      rw [call_eq (hT 22 _ rfl) rfl]
      simp only [B.b22, List.cons_append, List.nil_append, List.replicate]
      rw [ev_ss1, st1, nxt_bnd, ev_ss1, ev_ifs, test1, toS_ok, if_neg (by simp), ev_ss0, nxt_bnd, ev_ss1]
      simp [h1] at *
      simp [c2, ← hk, c3]
    · have st4 : evS (callD T sub wf (n + 3)) sub wf (.asg 3 (.op2 .add (.cst (.int 3)) (.call 15 [.io 0, .e (.op2 .sub (.pk 1) (.cst (.int 2)))]))) [.own true p1, v (.int sz), v (.int fm), .no, .no, .no, .no, .no, .no, .no, .no] = .nxt [.own true p2, v (.int sz), v (.int fm), v (.int k), .no, .no, .no, .no, .no, .no, .no] := by
        simp [c2, ← hk]
      have test2 : evT (callD T sub wf (n + 3)) sub (.val (.op2 .eq (.pk 2) (.cst (.int 1)))) [.own true p1, v (.int sz), v (.int fm), .no, .no, .no, .no, .no, .no, .no, .no] = .ok false [.own true p1, v (.int sz), v (.int fm), .no, .no, .no, .no, .no, .no, .no, .no] := by
        simp [h1]
      by_cases hB : fm = 2 ∧ 3 < k
      · -- ways between two bays
        have test3 : evT (callD T sub wf (n + 3)) sub (.and_ (.val (.op2 .eq (.pk 2) (.cst (.int 2)))) (.val (.op2 .gt (.pk 3) (.cst (.int 3))))) [.own true p2, v (.int sz), v (.int fm), v (.int k), .no, .no, .no, .no, .no, .no, .no] = .ok true [.own true p2, v (.int sz), v (.int fm), v (.int k), .no, .no, .no, .no, .no, .no, .no] := by
          simp [hB.1, hB.2]
        have lp : loopC (cturn (callD T sub wf (n + 3)) sub [8, 9] (.nm 9) [.val (.op2 .le (.op2 .add (.op1 .sum_ (.pk 9)) (.cst (.int 2))) (.pk 3))] (.var 9)) (rows.map lD) [.own true p2, v (.int sz), v (.int fm), v (.int k), v (.lst (rows.map lD)), .no, .no, .no, .no, .no, .no] =
            .ok ((rows.filter fun ls => decide (ls.sum + 2 ≤ k)).map lD) [.own true p2, v (.int sz), v (.int fm), v (.int k), v (.lst (rows.map lD)), .no, .no, .no, .no, .no, .no] := by
          rw [loopC_fm _, filter_rows]
          intro x hx
          obtain ⟨ls, hls, rfl⟩ := List.mem_map.mp hx
          have os := o_sum (ls := ls)
          simp only [lD, intsOf_map] at os ⊢
          by_cases h : ls.sum + 2 ≤ k <;> simp [cturn, os, h]
        obtain ⟨F, hF⟩ : ∃ F, F = rows.filter fun ls => decide (ls.sum + 2 ≤ k) := ⟨_, rfl⟩
        rw [← hF] at lp
        have hne : F.map lD ≠ [] := by
          have m0 : [1, 1] ∈ F := by rw [hF]; exact List.mem_filter.mpr ⟨by simp [rows], by simp; omega⟩
          intro z
          rw [List.map_eq_nil_iff.mp z] at m0
          cases m0
        have hFl : (F.map lD).length ≤ 1000 := by
          rw [List.length_map, hF]
          have := List.length_filter_le (fun ls : List Int => decide (ls.sum + 2 ≤ k)) rows
          have : rows.length = 12 := rfl
          omega
        obtain ⟨d, p3, hp3, hd, c4⟩ := e_oneof (sub := sub) (wf := wf) (n := n) hT hp2 (by omega) hne hFl
        obtain ⟨ls, hls, rfl⟩ := List.mem_map.mp hd
        rw [hF] at hls
        obtain ⟨hls1, hls2⟩ := List.mem_filter.mp hls
        have hls2 : ls.sum + 2 ≤ k := by simpa using hls2
        obtain ⟨o1, o2, o3, o4⟩ := rows_ok ls hls1
        obtain ⟨r1, r2⟩ := raw_of o1
        refine ⟨_, ls.sum + 2, p3, hp3.mono (by omega), r1, r2, by omega, by omega, ?_⟩
        have c5 := e_ways (sub := sub) (wf := wf) (n := n + 2) hT (e0 := 0) (e1 := 1) (first := 2) (ls := ls) (by omega) (by omega) o2 o3
        have os := o_sum (ls := ls)
        rw [call_eq (hT 22 _ rfl) rfl]
        simp only [B.b22, List.cons_append, List.nil_append, List.replicate]
        rw [ev_ss1, st1, nxt_bnd, ev_ss1, ev_ifs, test1, toS_ok, if_neg (by simp), ev_ss0, nxt_bnd, ev_ss1, ev_ifs, test2, toS_ok, if_neg (by simp), ev_ss0, nxt_bnd, ev_ss1, st4, nxt_bnd, ev_ss1, ev_ifs, test3, toS_ok, if_pos rfl]
        have a1 : evSs (callD T sub wf (n + 3)) sub wf [.asg 4 (.lst [.lst [.cst (.int 1), .cst (.int 1)], .lst [.cst (.int 1), .cst (.int 1), .cst (.int 1)], .lst [.cst (.int 0), .cst (.int 1), .cst (.int 1)], .lst [.cst (.int 0), .cst (.int 2), .cst (.int 2)], .lst [.cst (.int 1), .cst (.int 1), .cst (.int 2)], .lst [.cst (.int 1), .cst (.int 1), .cst (.int 1), .cst (.int 1)], .lst [.cst (.int 0), .cst (.int 2), .cst (.int 1)], .lst [.cst (.int 0), .cst (.int 3), .cst (.int 1)]]),
            .asg 4 (.op2 .add (.pk 4) (.lst [.lst [.cst (.int 1), .cst (.int 2), .cst (.int 1)], .lst [.cst (.int 0), .cst (.int 1), .cst (.int 1), .cst (.int 1)], .lst [.cst (.int 1), .cst (.int 2), .cst (.int 2)], .lst [.cst (.int 1), .cst (.int 2), .cst (.int 2)]]))] [.own true p2, v (.int sz), v (.int fm), v (.int k), .no, .no, .no, .no, .no, .no, .no] =
            .nxt [.own true p2, v (.int sz), v (.int fm), v (.int k), .own false (.lst (rows.map lD)), .no, .no, .no, .no, .no, .no] := by
          have l1 : (8 : Nat) + 4 ≤ lim := by decide
          rw [← rowsD]
          simp [l1]
        have app : ∀ (a b : List IS) (e : Sb.Env), evSs (callD T sub wf (n + 3)) sub wf (a ++ b) e = (evSs (callD T sub wf (n + 3)) sub wf a e).bnd (evSs (callD T sub wf (n + 3)) sub wf b) := fun a b => by
          induction a with
          | nil => intro e; rw [List.nil_append, ev_ss0, nxt_bnd]
          | cons x a ih =>
            intro e
            rw [List.cons_append, ev_ss1, ev_ss1]
            cases evS (callD T sub wf (n + 3)) sub wf x e with
            | nxt e1 => exact ih e1
            | _ => rfl
        rw [show ∀ a b c d : IS, [a, b, c, d] = [a, b] ++ [c, d] from fun _ _ _ _ => rfl, app, a1, nxt_bnd]
        have l2 : (rows.map lD).length ≤ lim := by decide
        have c5' : callD T sub wf (n + 3) 21 [v (.tup [.int 0, .int 1]), v (lD ls), v (.int 2)] = .ok true (.lst ((waysP 0 1 ls 2).map pD)) [v (.tup [.int 0, .int 1]), v (lD ls), v (.int 2)] := c5
        generalize rows.map lD = G at *
        generalize F.map lD = G2 at *
        simp [l2, lp, c4, c5', os]
      · -- a ring, perhaps with more ties
        have test3 : evT (callD T sub wf (n + 3)) sub (.and_ (.val (.op2 .eq (.pk 2) (.cst (.int 2)))) (.val (.op2 .gt (.pk 3) (.cst (.int 3))))) [.own true p2, v (.int sz), v (.int fm), v (.int k), .no, .no, .no, .no, .no, .no, .no] = .ok false [.own true p2, v (.int sz), v (.int fm), v (.int k), .no, .no, .no, .no, .no, .no, .no] := by
          by_cases h : fm = 2
          · have : ¬ 3 < k := fun z => hB ⟨h, z⟩
            simp [h, this]
          · simp [h]
        obtain ⟨k5, hk5⟩ : ∃ k5, k5 = min k 5 := ⟨_, rfl⟩
        have b5 : 3 ≤ k5 ∧ k5 ≤ 5 ∧ k5 ≤ sz := by omega
        have c3 := e_ways (sub := sub) (wf := wf) (n := n + 2) hT (e0 := 0) (e1 := 0) (first := 1) (ls := [k5 - 1]) (by omega) (by omega) (by simp) (by intro x hx; rw [List.mem_singleton.mp hx]; omega)
        simp only [List.map_cons, List.map_nil] at c3
        obtain ⟨r0, r0l⟩ := raw_of (ring_ok b5.1 (by omega : k5 ≤ 7))
        have rl : (rng k5).length ≤ 5 := by rw [rng_len]; omega
        obtain ⟨p3, cs, t7, q1, q2, q3⟩ := loop_chords (sub := sub) (wf := wf) (n := n + 1) hT (sz := sz) (fm := fm) b5.1 b5.2.1 (rng k5) p2 (K + 2) (waysP 0 0 [k5 - 1] 1) .no (hp2.mono (by omega)) (by omega) (fun a ha => rng_mem.mp ha) (by omega) rfl
        obtain ⟨r1, r2⟩ := chord_raw b5.1 b5.2.1 q2
        refine ⟨_, k5, p3, q1.mono (by omega), r1, r2, by omega, b5.2.2, ?_⟩
        rw [call_eq (hT 22 _ rfl) rfl]
        simp only [B.b22, List.cons_append, List.nil_append, List.replicate]
        rw [ev_ss1, st1, nxt_bnd, ev_ss1, ev_ifs, test1, toS_ok, if_neg (by simp), ev_ss0, nxt_bnd, ev_ss1, ev_ifs, test2, toS_ok, if_neg (by simp), ev_ss0, nxt_bnd, ev_ss1, st4, nxt_bnd, ev_ss1, ev_ifs, test3, toS_ok, if_neg (by simp), ev_ss0, nxt_bnd]
        have s6 : evS (callD T sub wf (n + 3)) sub wf (.asg 3 (.op1 .min_ (.lst [.var 3, .cst (.int 5)]))) [.own true p2, v (.int sz), v (.int fm), v (.int k), .no, .no, .no, .no, .no, .no, .no] = .nxt [.own true p2, v (.int sz), v (.int fm), v (.int k5), .no, .no, .no, .no, .no, .no, .no] := by
          have om := o_min2l (a := k) (b := 5)
          simp [om, ← hk5]
        have s7 : evS (callD T sub wf (n + 3)) sub wf (.asg 6 (.call 21 [.e (.tup [.cst (.int 0), .cst (.int 0)]), .e (.lst [.op2 .sub (.pk 3) (.cst (.int 1))]), .e (.cst (.int 1))])) [.own true p2, v (.int sz), v (.int fm), v (.int k5), .no, .no, .no, .no, .no, .no, .no] = .nxt [.own true p2, v (.int sz), v (.int fm), v (.int k5), .no, .no, .own false (.lst ((waysP 0 0 [k5 - 1] 1).map pD)), .no, .no, .no, .no] := by
          simp [c3]
        have s8 : evI (callD T sub wf (n + 3)) sub (.rng1 (.pk 3)) [.own true p2, v (.int sz), v (.int fm), v (.int k5), .no, .no, .own false (.lst ((waysP 0 0 [k5 - 1] 1).map pD)), .no, .no, .no, .no] = .ok ((rng k5).map .int) [.own true p2, v (.int sz), v (.int fm), v (.int k5), .no, .no, .own false (.lst ((waysP 0 0 [k5 - 1] 1).map pD)), .no, .no, .no, .no] := by
          have r := rng_D k5
          have g1 : -4611686018427387904 ≤ k5 := by omega
          have g2 : k5 ≤ 100000 := by omega
          generalize (rng k5).map D.int = G at *
          generalize (waysP 0 0 [k5 - 1] 1).map pD = G2 at *
          simp [r, g1, g2]
        rw [ev_ss1, s6, nxt_bnd, ev_ss1, s7, nxt_bnd, ev_ss1, ev_for, s8, toS_ok, q3, nxt_bnd]
        simp
end
end M

set_option Elab.async false
set_option linter.all false
set_option maxRecDepth 100000
/-! A web drawn. -/
namespace M
open PySem Sb
section
variable {T : Nat → Option Def} {sub : Nat → Nat → Bool} {wf n : Nat}
/-- the name of a bay -/
def nameOf (ns : List Int) (x : Int) : Int := (ns[x.toNat]?).getD 0
theorem idx_name {ns : List Int} {x : Int} (h0 : 0 ≤ x) (h1 : x < ns.length) : atD (ns.map .int) x = some (.int (nameOf ns x)) := by
  obtain ⟨j, rfl⟩ := Int.eq_ofNat_of_zero_le h0
  have hj : j < ns.length := by omega
  rw [atD_nat, List.getElem?_map]
  unfold nameOf
  rw [Int.toNat_natCast, List.getElem?_eq_getElem hj]
  rfl
theorem e_renamed (hT : Ext T) {ps : Ties} {ns : List Int} (hok : ∀ p ∈ ps, 0 ≤ p.1 ∧ p.1 < ns.length ∧ 0 ≤ p.2 ∧ p.2 < ns.length) (hl : ps.length ≤ 1000) :
    callD T sub wf (n + 1) 20 [v (.lst (ps.map pD)), v (.lst (ns.map .int))] = .ok false (.tup ((srtP (ps.map fun p => norm (nameOf ns p.1, nameOf ns p.2))).map pD)) [v (.lst (ps.map pD)), v (.lst (ns.map .int))] := by
  rw [call_eq (hT 20 _ rfl) rfl]
  have l1 : ps.length ≤ lim := by have : lim = 100000 := rfl; omega
  have lp : loopC (cturn (callD T sub wf n) sub [2, 3, 4] (.nms [3, 4]) [] (.tup [.op2 .min2 (.op2 .idx (.pk 1) (.pk 3)) (.op2 .idx (.pk 1) (.pk 4)), .op2 .max2 (.op2 .idx (.pk 1) (.pk 3)) (.op2 .idx (.pk 1) (.pk 4))])) (ps.map pD) [v (.lst (ps.map pD)), v (.lst (ns.map .int)), .no, .no, .no] =
      .ok ((ps.map fun p => norm (nameOf ns p.1, nameOf ns p.2)).map pD) [v (.lst (ps.map pD)), v (.lst (ns.map .int)), .no, .no, .no] := by
    rw [List.map_map]
    refine loopC_ties _ fun p hp => ?_
    obtain ⟨a1, a2, a3, a4⟩ := hok p hp
    have i1 := idx_name a1 a2
    have i2 := idx_name a3 a4
    simp only [pD]
    generalize ns.map D.int = G at *
    simp [cturn, i1, i2, pD, norm]
  have os := o_sortP (ps := ps.map fun p => norm (nameOf ns p.1, nameOf ns p.2))
  generalize (ps.map fun p => norm (nameOf ns p.1, nameOf ns p.2)) = Z at *
  generalize Z.map pD = Z2 at *
  simp [B.b20, l1, lp, os]
/-- names that are an order of the bays -/
theorem perm_names {m : Int} {ns : List Int} (h0 : 0 ≤ m) (h : ns.Perm (rng m)) : (ns.length : Int) = m ∧ (∀ x y, 0 ≤ x → x < m → 0 ≤ y → y < m → nameOf ns x = nameOf ns y → x = y) ∧ (∀ y, 0 ≤ y → y < m → ∃ x, 0 ≤ x ∧ x < m ∧ nameOf ns x = y) ∧ ∀ x, 0 ≤ x → x < m → 0 ≤ nameOf ns x ∧ nameOf ns x < m := by
  have hl : (ns.length : Int) = m := by rw [h.length_eq, rng_len]; omega
  have nd : ns.Nodup := h.nodup_iff.mpr (rng_nd m)
  have at_ : ∀ x, 0 ≤ x → x < m → ∃ (j : Nat) (hj : j < ns.length), x = j ∧ nameOf ns x = ns[j] := fun x h1 h2 => by
    obtain ⟨j, rfl⟩ := Int.eq_ofNat_of_zero_le h1
    have hj : j < ns.length := by omega
    exact ⟨j, hj, rfl, by unfold nameOf; rw [Int.toNat_natCast, List.getElem?_eq_getElem hj]; rfl⟩
  refine ⟨hl, fun x y x0 xm y0 ym e => ?_, fun y y0 ym => ?_, fun x x0 xm => ?_⟩
  · obtain ⟨i, hi, rfl, e1⟩ := at_ x x0 xm
    obtain ⟨j, hj, rfl, e2⟩ := at_ y y0 ym
    rw [e1, e2] at e
    have pw := List.pairwise_iff_getElem.mp nd
    rcases Nat.lt_trichotomy i j with z | z | z
    · exact (pw i j hi hj z e).elim
    · omega
    · exact (pw j i hj hi z e.symm).elim
  · have hy : y ∈ ns := h.mem_iff.mpr (rng_mem.mpr ⟨y0, ym⟩)
    obtain ⟨j, hj, e⟩ := List.mem_iff_getElem.mp hy
    obtain ⟨i, hi, e1, e2⟩ := at_ j (by omega) (by omega)
    have hij : i = j := by omega
    subst hij
    exact ⟨i, by omega, by omega, by rw [e2]; exact e⟩
  · obtain ⟨j, hj, _, e⟩ := at_ x x0 xm
    rw [e]
    exact rng_mem.mp (h.mem_iff.mp (List.getElem_mem hj))
end
section
variable {T : Nat → Option Def} {sub : Nat → Nat → Bool} {wf n : Nat}
/-- a web's names drawn -/
theorem e_web (hT : Ext T) {K : Nat} {p : D} {m : Int} {ps : Ties} (hp : Pen K p) (hK : K + 100 ≤ 1000000) (r : Raw m ps) (h2 : 2 ≤ m) (h40 : m ≤ 40) (hl : ps.length < 64) :
    ∃ (ns : List Int) (p' : D) (ts : Ties), Pen (K + 100) p' ∧ Web m ts ∧ ts.length = ps.length ∧ callD T sub wf (n + 3) 19 [.own true p, v (.int m)] = .ok true (.lst (ns.map .int)) [.own true p', v (.int m)] ∧
      ∀ n', callD T sub wf (n' + 1) 20 [v (.lst (ps.map pD)), v (.lst (ns.map .int))] = .ok false (.tup (ts.map pD)) [v (.lst (ps.map pD)), v (.lst (ns.map .int))] := by
  obtain ⟨ns, p', a1, a2, a3⟩ := e_names (sub := sub) (wf := wf) (n := n) hT hp hK (by omega) (by omega : m ≤ 100)
  obtain ⟨b1, b2, b3, b4⟩ := perm_names (by omega) a2
  refine ⟨ns, p', _, a1, r.web h2 h40 hl b2 b3 b4, by rw [(srtP_perm _).length_eq, List.length_map], a3, fun n' => ?_⟩
  exact e_renamed hT (fun q hq => by have := okRaw_iff.mp (r.ok q hq); omega) (by omega)
theorem e_anyweb (hT : Ext T) {K : Nat} {p : D} {most sz : Int} (hp : Pen K p) (hK : K + 1000 ≤ 1000000) (h2 : 2 ≤ most) (h40 : most ≤ 40) (s2 : 2 ≤ sz) (s7 : sz ≤ 7) :
    ∃ (m : Int) (ts : Ties) (p' : D), Pen (K + 1000) p' ∧ Web m ts ∧ ts.length ≤ 40 ∧ m ≤ most ∧ callD T sub wf (n + 5) 23 [.own true p, v (.int most), v (.int sz)] = .ok false (wD m ts) [.own true p', v (.int most), v (.int sz)] := by
  obtain ⟨ps, k, p1, hp1, r1, l1, k2, ks, c1⟩ := e_piece (sub := sub) (wf := wf) (n := n) hT (sz := min sz most) hp (by omega) (by omega) (by omega)
  obtain ⟨t, p2, hp2, t0, t4, c2⟩ := e_take (sub := sub) (wf := wf) (n := n + 2) hT (m := 4) hp1 (by omega) (by omega) (by omega)
  -- blocks put at it
  have loop : ∀ (xs : List Int) (q : D) (J : Nat) (k : Int) (ps : Ties) (s3 s5 s6 s7 s8 s9 : Slot), Pen J q → J + 200 * xs.length ≤ 1000000 → Raw k ps → 2 ≤ k → k ≤ most → ps.length + 10 * xs.length ≤ 40 → (s3 = v (.lst (ps.map pD)) ∨ s3 = .own false (.lst (ps.map pD))) → s5.pin = false → s6.pin = false → s7.pin = false → s8.pin = false → s9.pin = false →
      ∃ (q' : D) (k' : Int) (ps' : Ties) (t3 t5 t6 t7 t8 t9 : Slot), Pen (J + 200 * xs.length) q' ∧ Raw k' ps' ∧ 2 ≤ k' ∧ k' ≤ most ∧ ps'.length ≤ 40 ∧ (t3 = v (.lst (ps'.map pD)) ∨ t3 = .own false (.lst (ps'.map pD))) ∧
        loopF (turn (callD T sub wf (n + 4)) sub wf (.nm 5) [.ifs (.val (.op2 .lt (.pk 4) (.pk 1))) [.asgN [6, 7] (.call 22 [.io 0, .e (.op1 .min_ (.lst [.var 2, .op2 .add (.op2 .sub (.pk 1) (.pk 4)) (.cst (.int 1))]))]),
          .asg 8 (.call 15 [.io 0, .e (.var 4)]),
          .asg 9 (.op2 .add (.lst [.var 8]) (.op2 .rng2 (.pk 4) (.op2 .sub (.op2 .add (.pk 4) (.pk 7)) (.cst (.int 1))))),
          .par [3, 4] [.op2 .add (.pk 3) (.comp (.seq (.var 6)) (.nms [11, 12]) [10, 11, 12] [] (.tup [.op2 .idx (.pk 9) (.pk 11), .op2 .idx (.pk 9) (.pk 12)])), .op2 .sub (.op2 .add (.pk 4) (.pk 7)) (.cst (.int 1))]] []]) (xs.map .int)
          [.own true q, v (.int most), v (.int sz), s3, v (.int k), s5, s6, s7, s8, s9, .no, .no, .no] = .nxt [.own true q', v (.int most), v (.int sz), t3, v (.int k'), t5, t6, t7, t8, t9, .no, .no, .no] := by
    intro xs
    induction xs with
    | nil => intro q J k ps s3 s5 s6 s7 s8 s9 hq hJ r k2 km pl h3 _ _ _ _ _; exact ⟨q, k, ps, s3, s5, s6, s7, s8, s9, hq, r, k2, km, by simpa using pl, h3, rfl⟩
    | cons x xs ih =>
      intro q J k ps s3 s5 s6 s7 s8 s9 hq hJ r k2 km pl h3 h5 h6 h7 h8 h9
      simp only [List.length_cons] at hJ pl ⊢
      rw [List.map_cons, loopF]
      by_cases hk : k < most
      · obtain ⟨qs, j, q1, hq1, r2, l2, j2, jm, c3⟩ := e_piece (sub := sub) (wf := wf) (n := n) hT (sz := min sz (most - k + 1)) hq (by omega) (by omega) (by omega)
        obtain ⟨at_, q2, hq2, a0, am, c4⟩ := e_take (sub := sub) (wf := wf) (n := n + 2) hT (m := k) hq1 (by omega) (by omega) (by omega)
        have g := r.glue r2 a0 am (by omega)
        obtain ⟨ms, hms⟩ : ∃ ms : Ties, ms = qs.map fun p => ((if p.1 = 0 then at_ else k + p.1 - 1), (if p.2 = 0 then at_ else k + p.2 - 1)) := ⟨_, rfl⟩
        rw [← hms] at g
        have msl : ms.length ≤ 10 := by rw [hms, List.length_map]; exact l2
        obtain ⟨nm, hnm⟩ : ∃ nm : List Int, nm = at_ :: (List.range (j - 1).toNat).map fun (i : Nat) => k + i := ⟨_, rfl⟩
        have nml : nm.length = (j - 1).toNat + 1 := by rw [hnm]; simp
        obtain ⟨q', k', ps', t3, t5, t6, t7, t8, t9, b1, b2, b3, b4, b5, b6, b7⟩ := ih q2 (J + 101) (k + j - 1) (ps ++ ms) (.own false (.lst ((ps ++ ms).map pD))) (v (.int x)) (v (.lst (qs.map pD))) (v (.int j)) (v (.int at_)) (.own false (.lst (nm.map .int))) (hq2.mono (by omega)) (by omega) g (by omega) (by omega) (by rw [List.length_append]; omega) (.inr rfl) rfl rfl rfl rfl rfl
        refine ⟨q', k', ps', t3, t5, t6, t7, t8, t9, b1.mono (by omega), b2, b3, b4, b5, b6, ?_⟩
        have r2' := o_rng2 (m := k) (n := k + j - 1) (by omega) (by omega) (by omega) (by omega)
        rw [show k + j - 1 - k = j - 1 by omega] at r2'
        have om := o_min2l (a := sz) (b := most - k + 1)
        have hG : D.int at_ :: ((List.range (j - 1).toNat).map fun (i : Nat) => D.int (k + i)) = nm.map .int := by rw [hnm]; simp
        have lG : ((List.range (j - 1).toNat).map fun (i : Nat) => D.int (k + i)).length = (j - 1).toNat := by simp
        have idx : ∀ y, 0 ≤ y → y < j → atD (nm.map .int) y = some (.int (if y = 0 then at_ else k + y - 1)) := fun y y0 yj => by
          rw [idx_name y0 (by rw [nml]; omega)]
          congr 2
          obtain ⟨i, rfl⟩ := Int.eq_ofNat_of_zero_le y0
          unfold nameOf
          rw [Int.toNat_natCast, hnm]
          cases i with
          | zero => simp
          | succ i =>
            have : i < (j - 1).toNat := by omega
            rw [List.getElem?_cons_succ, List.getElem?_map, List.getElem?_range this]
            have z : ¬ ((i + 1 : Nat) : Int) = 0 := by omega
            rw [if_neg z]
            show k + (i : Int) = _
            omega
        have st1 : turn (callD T sub wf (n + 4)) sub wf (.nm 5) [.ifs (.val (.op2 .lt (.pk 4) (.pk 1))) [.asgN [6, 7] (.call 22 [.io 0, .e (.op1 .min_ (.lst [.var 2, .op2 .add (.op2 .sub (.pk 1) (.pk 4)) (.cst (.int 1))]))]),
          .asg 8 (.call 15 [.io 0, .e (.var 4)]),
          .asg 9 (.op2 .add (.lst [.var 8]) (.op2 .rng2 (.pk 4) (.op2 .sub (.op2 .add (.pk 4) (.pk 7)) (.cst (.int 1))))),
          .par [3, 4] [.op2 .add (.pk 3) (.comp (.seq (.var 6)) (.nms [11, 12]) [10, 11, 12] [] (.tup [.op2 .idx (.pk 9) (.pk 11), .op2 .idx (.pk 9) (.pk 12)])), .op2 .sub (.op2 .add (.pk 4) (.pk 7)) (.cst (.int 1))]] []] (.int x)
          [.own true q, v (.int most), v (.int sz), s3, v (.int k), s5, s6, s7, s8, s9, .no, .no, .no] =
            .nxt [.own true q2, v (.int most), v (.int sz), .own false (.lst ((ps ++ ms).map pD)), v (.int (k + j - 1)), v (.int x), v (.lst (qs.map pD)), v (.int j), v (.int at_), .own false (.lst (nm.map .int)), .no, .no, .no] := by
          have u1 : evS (callD T sub wf (n + 4)) sub wf (.asgN [6, 7] (.call 22 [.io 0, .e (.op1 .min_ (.lst [.var 2, .op2 .add (.op2 .sub (.pk 1) (.pk 4)) (.cst (.int 1))]))])) [.own true q, v (.int most), v (.int sz), s3, v (.int k), v (.int x), s6, s7, s8, s9, .no, .no, .no] =
              .nxt [.own true q1, v (.int most), v (.int sz), s3, v (.int k), v (.int x), v (.lst (qs.map pD)), v (.int j), s8, s9, .no, .no, .no] := by
            generalize qs.map pD = G at *
            simp [om, c3, h6, h7]
          have u2 : evS (callD T sub wf (n + 4)) sub wf (.asg 8 (.call 15 [.io 0, .e (.var 4)])) [.own true q1, v (.int most), v (.int sz), s3, v (.int k), v (.int x), v (.lst (qs.map pD)), v (.int j), s8, s9, .no, .no, .no] =
              .nxt [.own true q2, v (.int most), v (.int sz), s3, v (.int k), v (.int x), v (.lst (qs.map pD)), v (.int j), v (.int at_), s9, .no, .no, .no] := by
            simp [c4, h8]
          have u3 : evS (callD T sub wf (n + 4)) sub wf (.asg 9 (.op2 .add (.lst [.var 8]) (.op2 .rng2 (.pk 4) (.op2 .sub (.op2 .add (.pk 4) (.pk 7)) (.cst (.int 1)))))) [.own true q2, v (.int most), v (.int sz), s3, v (.int k), v (.int x), v (.lst (qs.map pD)), v (.int j), v (.int at_), s9, .no, .no, .no] =
              .nxt [.own true q2, v (.int most), v (.int sz), s3, v (.int k), v (.int x), v (.lst (qs.map pD)), v (.int j), v (.int at_), .own false (.lst (nm.map .int)), .no, .no, .no] := by
            rw [← hG]
            generalize ((List.range (j - 1).toNat).map fun (i : Nat) => D.int (k + i)) = G at *
            have w : 1 + G.length ≤ lim := by have : lim = 100000 := rfl; omega
            simp [r2', w, h9]
          have lp : loopC (cturn (callD T sub wf (n + 4)) sub [10, 11, 12] (.nms [11, 12]) [] (.tup [.op2 .idx (.pk 9) (.pk 11), .op2 .idx (.pk 9) (.pk 12)])) (qs.map pD) [.own true q2, v (.int most), v (.int sz), s3, v (.int k), v (.int x), v (.lst (qs.map pD)), v (.int j), v (.int at_), .own false (.lst (nm.map .int)), .no, .no, .no] =
              .ok (ms.map pD) [.own true q2, v (.int most), v (.int sz), s3, v (.int k), v (.int x), v (.lst (qs.map pD)), v (.int j), v (.int at_), .own false (.lst (nm.map .int)), .no, .no, .no] := by
            rw [hms, List.map_map]
            refine loopC_ties _ fun p hp => ?_
            have ok := okRaw_iff.mp (r2.ok p hp)
            have i1 := idx p.1 ok.1 ok.2.1
            have i2 := idx p.2 ok.2.2.1 ok.2.2.2.1
            simp only [pD]
            generalize nm.map D.int = G at *
            simp [cturn, i1, i2, pD]
          have u4 : evS (callD T sub wf (n + 4)) sub wf (.par [3, 4] [.op2 .add (.pk 3) (.comp (.seq (.var 6)) (.nms [11, 12]) [10, 11, 12] [] (.tup [.op2 .idx (.pk 9) (.pk 11), .op2 .idx (.pk 9) (.pk 12)])), .op2 .sub (.op2 .add (.pk 4) (.pk 7)) (.cst (.int 1))]) [.own true q2, v (.int most), v (.int sz), s3, v (.int k), v (.int x), v (.lst (qs.map pD)), v (.int j), v (.int at_), .own false (.lst (nm.map .int)), .no, .no, .no] =
              .nxt [.own true q2, v (.int most), v (.int sz), .own false (.lst ((ps ++ ms).map pD)), v (.int (k + j - 1)), v (.int x), v (.lst (qs.map pD)), v (.int j), v (.int at_), .own false (.lst (nm.map .int)), .no, .no, .no] := by
            rw [List.map_append]
            have w1 : (qs.map pD).length ≤ lim := by have : lim = 100000 := rfl; rw [List.length_map]; omega
            have w2 : (ps.map pD).length + (ms.map pD).length ≤ lim := by have : lim = 100000 := rfl; rw [List.length_map, List.length_map]; omega
            generalize qs.map pD = G at *
            generalize ps.map pD = G2 at *
            generalize ms.map pD = G3 at *
            generalize nm.map D.int = G4 at *
            rcases h3 with rfl | rfl <;> simp [w1, lp, w2]
          have tst : evT (callD T sub wf (n + 4)) sub (.val (.op2 .lt (.pk 4) (.pk 1))) [.own true q, v (.int most), v (.int sz), s3, v (.int k), v (.int x), s6, s7, s8, s9, .no, .no, .no] = .ok true [.own true q, v (.int most), v (.int sz), s3, v (.int k), v (.int x), s6, s7, s8, s9, .no, .no, .no] := by
            simp [hk]
          unfold turn
          rw [show asgT (.nm 5) (.int x) [.own true q, v (.int most), v (.int sz), s3, v (.int k), s5, s6, s7, s8, s9, .no, .no, .no] = some [.own true q, v (.int most), v (.int sz), s3, v (.int k), v (.int x), s6, s7, s8, s9, .no, .no, .no] by simp [h5], optB_some, ev_ss1, ev_ifs, tst, toS_ok, if_pos rfl, ev_ss1, u1, nxt_bnd, ev_ss1, u2, nxt_bnd, ev_ss1, u3, nxt_bnd, ev_ss1, u4, nxt_bnd, ev_ss0, nxt_bnd, ev_ss0]
        rw [st1]
        exact b7
      · obtain ⟨q', k', ps', t3, t5, t6, t7, t8, t9, b1, b2, b3, b4, b5, b6, b7⟩ := ih q J k ps s3 (v (.int x)) s6 s7 s8 s9 hq (by omega) r k2 km (by omega) h3 rfl h6 h7 h8 h9
        refine ⟨q', k', ps', t3, t5, t6, t7, t8, t9, b1.mono (by omega), b2, b3, b4, b5, b6, ?_⟩
        have st1 : turn (callD T sub wf (n + 4)) sub wf (.nm 5) [.ifs (.val (.op2 .lt (.pk 4) (.pk 1))) [.asgN [6, 7] (.call 22 [.io 0, .e (.op1 .min_ (.lst [.var 2, .op2 .add (.op2 .sub (.pk 1) (.pk 4)) (.cst (.int 1))]))]),
          .asg 8 (.call 15 [.io 0, .e (.var 4)]),
          .asg 9 (.op2 .add (.lst [.var 8]) (.op2 .rng2 (.pk 4) (.op2 .sub (.op2 .add (.pk 4) (.pk 7)) (.cst (.int 1))))),
          .par [3, 4] [.op2 .add (.pk 3) (.comp (.seq (.var 6)) (.nms [11, 12]) [10, 11, 12] [] (.tup [.op2 .idx (.pk 9) (.pk 11), .op2 .idx (.pk 9) (.pk 12)])), .op2 .sub (.op2 .add (.pk 4) (.pk 7)) (.cst (.int 1))]] []] (.int x)
          [.own true q, v (.int most), v (.int sz), s3, v (.int k), s5, s6, s7, s8, s9, .no, .no, .no] =
            .nxt [.own true q, v (.int most), v (.int sz), s3, v (.int k), v (.int x), s6, s7, s8, s9, .no, .no, .no] := by
          have tst : evT (callD T sub wf (n + 4)) sub (.val (.op2 .lt (.pk 4) (.pk 1))) [.own true q, v (.int most), v (.int sz), s3, v (.int k), v (.int x), s6, s7, s8, s9, .no, .no, .no] = .ok false [.own true q, v (.int most), v (.int sz), s3, v (.int k), v (.int x), s6, s7, s8, s9, .no, .no, .no] := by
            simp [hk]
          unfold turn
          rw [show asgT (.nm 5) (.int x) [.own true q, v (.int most), v (.int sz), s3, v (.int k), s5, s6, s7, s8, s9, .no, .no, .no] = some [.own true q, v (.int most), v (.int sz), s3, v (.int k), v (.int x), s6, s7, s8, s9, .no, .no, .no] by simp [h5], optB_some, ev_ss1, ev_ifs, tst, toS_ok, if_neg (by simp), ev_ss0, nxt_bnd, ev_ss0]
        rw [st1]
        exact b7
  have tl : (rng t).length ≤ 3 := by rw [rng_len]; omega
  obtain ⟨p3, m, ps', t3, t5, t6, t7, t8, t9, b1, b2, b3, b4, b5, b6, b7⟩ := loop (rng t) p2 (K + 101) k ps (v (.lst (ps.map pD))) .no .no .no .no .no (hp2.mono (by omega)) (by omega) r1 k2 (by omega) (by omega) (.inl rfl) rfl rfl rfl rfl rfl
  obtain ⟨ns, p4, ts, d1, d2, dl, d3, d4⟩ := e_web (sub := sub) (wf := wf) (n := n + 1) hT b1 (by omega) b2 b3 (by omega) (by omega)
  refine ⟨m, ts, p4, d1.mono (by omega), d2, by omega, b4, ?_⟩
  rw [call_eq (hT 23 _ rfl) rfl]
  simp only [B.b23, List.cons_append, List.nil_append, List.replicate]
  have e1 : evS (callD T sub wf (n + 4)) sub wf (.asgN [3, 4] (.call 22 [.io 0, .e (.op1 .min_ (.lst [.var 2, .var 1]))])) [.own true p, v (.int most), v (.int sz), .no, .no, .no, .no, .no, .no, .no, .no, .no, .no] = .nxt [.own true p1, v (.int most), v (.int sz), v (.lst (ps.map pD)), v (.int k), .no, .no, .no, .no, .no, .no, .no, .no] := by
    have om := o_min2l (a := sz) (b := most)
    generalize ps.map pD = G at *
    simp [om, c1]
  have e2 : evI (callD T sub wf (n + 4)) sub (.rng1 (.call 15 [.io 0, .e (.cst (.int 4))])) [.own true p1, v (.int most), v (.int sz), v (.lst (ps.map pD)), v (.int k), .no, .no, .no, .no, .no, .no, .no, .no] = .ok ((rng t).map .int) [.own true p2, v (.int most), v (.int sz), v (.lst (ps.map pD)), v (.int k), .no, .no, .no, .no, .no, .no, .no, .no] := by
    have r := rng_D t
    have g1 : -4611686018427387904 ≤ t := by omega
    have g2 : t ≤ 100000 := by omega
    generalize (rng t).map D.int = G at *
    simp [c2, r, g1, g2]
  rw [ev_ss1, e1, nxt_bnd, ev_ss1, ev_for, e2, toS_ok, b7, nxt_bnd]
  have d4' := d4 (n + 3)
  show _ = FR.ok false (.tup [.int m, .tup (ts.map pD)]) _
  generalize ts.map pD = G at *
  generalize ns.map D.int = G2 at *
  generalize ps'.map pD = G3 at *
  rcases b6 with rfl | rfl <;> simp [d3, d4']
end
end M

set_option Elab.async false
set_option linter.all false
set_option maxRecDepth 100000
/-! Values of any form: what may be shown of them. -/
namespace M
open PySem Sb
mutual
def mu : D → Nat
  | .tup ds => mus ds + 3
  | .lst ds => mus ds + 3
  | .non => (PyData.shown .none).length
  | .bl b => (PyData.shown (.bool b)).length
  | .int i => (PyData.shown (.int i)).length
  | .str x => (PyData.shown (.str x)).length
  | .dct _ _ => 2
  | .obj _ _ => 4
  | .scr _ => 4
def mus : List D → Nat
  | [] => 0
  | d :: ds => mu d + 2 + mus ds
end
mutual
theorem shown_mu : ∀ d : D, (toPy d).shown.length ≤ mu d
  | .tup ds => by
    have h := shown_mus ds
    have h2 := tupleText_len_le (PyData.shownAll (toPys ds))
    simp only [toPy, PyData.shown, mu]
    omega
  | .lst ds => by
    have h := shown_mus ds
    have h2 := listText_len_le (PyData.shownAll (toPys ds))
    simp only [toPy, PyData.shown, mu]
    omega
  | .non => Nat.le_refl _
  | .bl b => Nat.le_refl _
  | .int i => Nat.le_refl _
  | .str x => Nat.le_refl _
  | .dct _ _ => by show (PyData.shown (.dict [])).length ≤ 2; decide
  | .obj _ _ => by show (PyData.shown .none).length ≤ 4; decide
  | .scr _ => by show (PyData.shown .none).length ≤ 4; decide
theorem shown_mus : ∀ ds : List D, ((PyData.shownAll (toPys ds)).map (·.length)).sum + 2 * (PyData.shownAll (toPys ds)).length ≤ mus ds
  | [] => by simp [toPys, PyData.shownAll, mus]
  | d :: ds => by
    have h1 := shown_mu d
    have h2 := shown_mus ds
    simp only [toPys, PyData.shownAll, List.map_cons, List.sum_cons, List.length_cons, mus]
    omega
end
theorem mu_int {i : Int} (h : i.natAbs < 10 ^ 12) : mu (.int i) ≤ 13 := PyData.shown_int_le h
theorem mus_app : ∀ a b : List D, mus (a ++ b) = mus a + mus b
  | [], b => by simp [mus]
  | x :: a, b => by simp only [List.cons_append, mus, mus_app a b]; omega
theorem mus_rev : ∀ a : List D, mus a.reverse = mus a
  | [] => rfl
  | x :: a => by rw [List.reverse_cons, mus_app, mus_rev a]; simp only [mus]; omega
/-- what may be shown, whatever the depth from k on -/
structure Sh (k : Nat) (d : D) : Prop where
  sh : ∀ n, k ≤ n → shows n d = true
structure NL (k : Nat) (d : D) : Prop where
  h : ∀ n, k ≤ n → noLst n d = true
structure ND (k : Nat) (d : D) : Prop where
  h : ∀ n, k ≤ n → noDct n d = true
theorem Sh.mono {j k : Nat} {d : D} (s : Sh j d) (h : j ≤ k) : Sh k d := ⟨fun n hn => s.sh n (by omega)⟩
theorem NL.mono {j k : Nat} {d : D} (s : NL j d) (h : j ≤ k) : NL k d := ⟨fun n hn => s.h n (by omega)⟩
theorem ND.mono {j k : Nat} {d : D} (s : ND j d) (h : j ≤ k) : ND k d := ⟨fun n hn => s.h n (by omega)⟩
theorem Sh.tup {k : Nat} {ds : List D} (h : ∀ x ∈ ds, Sh k x) (hl : ds.length ≤ 1000) : Sh (k + 1) (.tup ds) := ⟨fun n hn => by
  obtain ⟨m, rfl⟩ : ∃ m, n = m + 1 := ⟨n - 1, by omega⟩
  simp only [shows, hl, decide_true, Bool.true_and, List.all_eq_true]
  exact fun x hx => (h x hx).sh m (by omega)⟩
theorem Sh.lst {k : Nat} {ds : List D} (h : ∀ x ∈ ds, Sh k x) (hl : ds.length ≤ 1000) : Sh (k + 1) (.lst ds) := ⟨fun n hn => by
  obtain ⟨m, rfl⟩ : ∃ m, n = m + 1 := ⟨n - 1, by omega⟩
  simp only [shows, hl, decide_true, Bool.true_and, List.all_eq_true]
  exact fun x hx => (h x hx).sh m (by omega)⟩
theorem NL.tup {k : Nat} {ds : List D} (h : ∀ x ∈ ds, NL k x) : NL (k + 1) (.tup ds) := ⟨fun n hn => by
  obtain ⟨m, rfl⟩ : ∃ m, n = m + 1 := ⟨n - 1, by omega⟩
  simp only [noLst, List.all_eq_true]
  exact fun x hx => (h x hx).h m (by omega)⟩
theorem ND.tup {k : Nat} {ds : List D} (h : ∀ x ∈ ds, ND k x) : ND (k + 1) (.tup ds) := ⟨fun n hn => by
  obtain ⟨m, rfl⟩ : ∃ m, n = m + 1 := ⟨n - 1, by omega⟩
  simp only [noDct, List.all_eq_true]
  exact fun x hx => (h x hx).h m (by omega)⟩
theorem ND.lst {k : Nat} {ds : List D} (h : ∀ x ∈ ds, ND k x) : ND (k + 1) (.lst ds) := ⟨fun n hn => by
  obtain ⟨m, rfl⟩ : ∃ m, n = m + 1 := ⟨n - 1, by omega⟩
  simp only [noDct, List.all_eq_true]
  exact fun x hx => (h x hx).h m (by omega)⟩
theorem Sh.int {i : Int} (h : i.natAbs < 10 ^ 60) : Sh 0 (.int i) := ⟨fun n _ => shows_int h⟩
theorem NL.int {i : Int} : NL 0 (.int i) := ⟨fun n _ => by cases n <;> rfl⟩
theorem ND.int {i : Int} : ND 0 (.int i) := ⟨fun n _ => by cases n <;> rfl⟩
theorem Sh.bl {b : Bool} : Sh 0 (.bl b) := ⟨fun n _ => by cases n <;> rfl⟩
theorem Sh.non : Sh 0 .non := ⟨fun n _ => by cases n <;> rfl⟩
theorem Sh.str {x : Str} (h : x.length ≤ 1000) : Sh 0 (.str x) := ⟨fun n _ => by cases n <;> simp [shows, h]⟩
theorem Sh.dnil : Sh 1 (.dct [] []) := ⟨fun n hn => by
  obtain ⟨m, rfl⟩ : ∃ m, n = m + 1 := ⟨n - 1, by omega⟩
  rfl⟩
/-- all of it plain: no list, no dict -/
structure Flat (k : Nat) (d : D) : Prop where
  sh : Sh k d
  nl : NL k d
  nd : ND k d
theorem Flat.mono {j k : Nat} {d : D} (s : Flat j d) (h : j ≤ k) : Flat k d := ⟨s.sh.mono h, s.nl.mono h, s.nd.mono h⟩
theorem Flat.tup {k : Nat} {ds : List D} (h : ∀ x ∈ ds, Flat k x) (hl : ds.length ≤ 1000) : Flat (k + 1) (.tup ds) := ⟨.tup (fun x hx => (h x hx).sh) hl, .tup fun x hx => (h x hx).nl, .tup fun x hx => (h x hx).nd⟩
theorem Flat.int {i : Int} (h : i.natAbs < 10 ^ 60) : Flat 0 (.int i) := ⟨.int h, .int, .int⟩
/-- a value of any form -/
structure Odd (k W : Nat) (d : D) : Prop where
  sh : Sh k d
  mix : NL k d ∨ ND k d
  mu : mu d ≤ W
  len : ∀ ds, d = .tup ds → ds.length ≤ 63
theorem Odd.mono {j k V W : Nat} {d : D} (s : Odd j V d) (h : j ≤ k) (h2 : V ≤ W) : Odd k W d := ⟨s.sh.mono h, s.mix.imp (·.mono h) (·.mono h), Nat.le_trans s.mu h2, s.len⟩
theorem Flat.odd {k W : Nat} {d : D} (f : Flat k d) (h : M.mu d ≤ W) (hl : ∀ ds, d = .tup ds → ds.length ≤ 63) : Odd k W d := ⟨f.sh, .inl f.nl, h, hl⟩
/-- what the law asks of a thing that it looks at -/
structure Thing (d : D) : Prop where
  sh : shows 20 d = true
  fw : few d
  rp : op1D .repr_ d = some (false, .str (toPy d).shown)
theorem Odd.thing {k W : Nat} {d : D} (s : Odd k W d) (hk : k ≤ 20) (hW : W ≤ 100000) (hf : few d) : Thing d := by
  have h1 := s.sh.sh 20 hk
  refine ⟨h1, hf, ?_⟩
  have h2 : (noLst 20 d || noDct 20 d) = true := by
    rcases s.mix with z | z
    · rw [z.h 20 hk]; rfl
    · rw [z.h 20 hk, Bool.or_true]
  have h3 : (toPy d).shown.length ≤ lim := Nat.le_trans (shown_mu d) (Nat.le_trans s.mu hW)
  show (if shows 20 d && (noLst 20 d || noDct 20 d) && decide ((toPy d).shown.length ≤ lim) then oStr (toPy d).shown else none) = _
  rw [h1, h2, decide_eq_true h3]
  rfl
def consts : List D := [.non, .bl true, .bl false, .int 0, .int 1, .int (-1), .int 2, .int 7, .str "a", .str "", .str "x", .int 40, .tup [], .lst [], .dct [] [], .tup [.int 0], .tup [.str "0"], .tup [.non], .lst [.int 0], .str "and"]
theorem const_odd : ∀ d ∈ consts, Odd 3 60 d := by
  intro d hd
  have sm : ∀ i : Int, i.natAbs < 10 ^ 12 → i.natAbs < 10 ^ 60 := fun i h => Nat.lt_of_lt_of_le h (Nat.pow_le_pow_right (by omega) (by omega))
  have z0 : Sh 0 (.int 0) := .int (by decide)
  simp only [consts, List.mem_cons, List.not_mem_nil, or_false] at hd
  have m : ∀ {d : D} {n : Nat}, M.mu d = n → n ≤ 60 → M.mu d ≤ 60 := fun h h2 => by omega
  rcases hd with rfl | rfl | rfl | rfl | rfl | rfl | rfl | rfl | rfl | rfl | rfl | rfl | rfl | rfl | rfl | rfl | rfl | rfl | rfl | rfl
  · exact ⟨Sh.non.mono (by omega), .inl ⟨fun n _ => by cases n <;> rfl⟩, by decide +kernel, fun ds h => nomatch h⟩
  · exact ⟨Sh.bl.mono (by omega), .inl ⟨fun n _ => by cases n <;> rfl⟩, by decide +kernel, fun ds h => nomatch h⟩
  · exact ⟨Sh.bl.mono (by omega), .inl ⟨fun n _ => by cases n <;> rfl⟩, by decide +kernel, fun ds h => nomatch h⟩
  · exact ⟨(Sh.int (by decide)).mono (by omega), .inl (NL.int.mono (by omega)), by decide +kernel, fun ds h => nomatch h⟩
  · exact ⟨(Sh.int (by decide)).mono (by omega), .inl (NL.int.mono (by omega)), by decide +kernel, fun ds h => nomatch h⟩
  · exact ⟨(Sh.int (by decide)).mono (by omega), .inl (NL.int.mono (by omega)), by decide +kernel, fun ds h => nomatch h⟩
  · exact ⟨(Sh.int (by decide)).mono (by omega), .inl (NL.int.mono (by omega)), by decide +kernel, fun ds h => nomatch h⟩
  · exact ⟨(Sh.int (by decide)).mono (by omega), .inl (NL.int.mono (by omega)), by decide +kernel, fun ds h => nomatch h⟩
  · exact ⟨(Sh.str (by decide +kernel)).mono (by omega), .inl ⟨fun n _ => by cases n <;> rfl⟩, by decide +kernel, fun ds h => nomatch h⟩
  · exact ⟨(Sh.str (by decide +kernel)).mono (by omega), .inl ⟨fun n _ => by cases n <;> rfl⟩, by decide +kernel, fun ds h => nomatch h⟩
  · exact ⟨(Sh.str (by decide +kernel)).mono (by omega), .inl ⟨fun n _ => by cases n <;> rfl⟩, by decide +kernel, fun ds h => nomatch h⟩
  · exact ⟨(Sh.int (by decide)).mono (by omega), .inl (NL.int.mono (by omega)), by decide +kernel, fun ds h => nomatch h⟩
  · exact ⟨(Sh.tup (k := 0) (by simp) (by simp)).mono (by omega), .inl ((NL.tup (k := 0) (by simp)).mono (by omega)), by decide +kernel, fun ds h => by cases h; simp⟩
  · exact ⟨(Sh.lst (k := 0) (by simp) (by simp)).mono (by omega), .inr ((ND.lst (k := 0) (by simp)).mono (by omega)), by decide +kernel, fun ds h => nomatch h⟩
  · exact ⟨Sh.dnil.mono (by omega), .inl ⟨fun n _ => by cases n <;> rfl⟩, by decide +kernel, fun ds h => nomatch h⟩
  · exact ⟨(Sh.tup (k := 0) (by intro x hx; rw [List.mem_singleton.mp hx]; exact z0) (by simp)).mono (by omega), .inl ((NL.tup (k := 0) (by intro x hx; rw [List.mem_singleton.mp hx]; exact .int)).mono (by omega)), by decide +kernel, fun ds h => by cases h; simp⟩
  · exact ⟨(Sh.tup (k := 0) (by intro x hx; rw [List.mem_singleton.mp hx]; exact .str (by decide +kernel)) (by simp)).mono (by omega), .inl ((NL.tup (k := 0) (by intro x hx; rw [List.mem_singleton.mp hx]; exact ⟨fun n _ => by cases n <;> rfl⟩)).mono (by omega)), by decide +kernel, fun ds h => by cases h; simp⟩
  · exact ⟨(Sh.tup (k := 0) (by intro x hx; rw [List.mem_singleton.mp hx]; exact .non) (by simp)).mono (by omega), .inl ((NL.tup (k := 0) (by intro x hx; rw [List.mem_singleton.mp hx]; exact ⟨fun n _ => by cases n <;> rfl⟩)).mono (by omega)), by decide +kernel, fun ds h => by cases h; simp⟩
  · exact ⟨(Sh.lst (k := 0) (by intro x hx; rw [List.mem_singleton.mp hx]; exact z0) (by simp)).mono (by omega), .inr ((ND.lst (k := 0) (by intro x hx; rw [List.mem_singleton.mp hx]; exact .int)).mono (by omega)), by decide +kernel, fun ds h => nomatch h⟩
  · exact ⟨(Sh.str (by decide +kernel)).mono (by omega), .inl ⟨fun n _ => by cases n <;> rfl⟩, by decide +kernel, fun ds h => nomatch h⟩
end M

set_option Elab.async false
set_option linter.all false
set_option maxRecDepth 100000
/-! Values bent. -/
namespace M
open PySem Sb
/-- ints, tuples of such, at most so deep -/
def rk : Nat → D → Prop
  | 0, d => ∃ i : Int, d = .int i ∧ i.natAbs < 1000000
  | r + 1, d => (∃ i : Int, d = .int i ∧ i.natAbs < 1000000) ∨ ∃ ds, d = .tup ds ∧ ds.length ≤ 62 ∧ ∀ x ∈ ds, rk r x
theorem small60 {i : Int} (h : i.natAbs < 10000000) : i.natAbs < 10 ^ 60 := Nat.lt_of_lt_of_le h (by decide)
theorem small12 {i : Int} (h : i.natAbs < 10000000) : i.natAbs < 10 ^ 12 := Nat.lt_of_lt_of_le h (by decide)
theorem rk_flat : ∀ (r : Nat) {d : D}, rk r d → Flat r d
  | 0, d, h => by obtain ⟨i, rfl, hi⟩ := h; exact .int (small60 (by omega))
  | r + 1, d, h => by
    rcases h with ⟨i, rfl, hi⟩ | ⟨ds, rfl, hl, hx⟩
    · exact (Flat.int (small60 (by omega))).mono (by omega)
    · exact .tup (fun x hx2 => rk_flat r (hx x hx2)) (by omega)
theorem cut_take {ds : List D} {k : Nat} (h : k ≤ ds.length) : cutD ds none (some (k : Int)) = ds.take k := by
  unfold cutD
  have h1 : HT.sIx ds.length 0 none = 0 := rfl
  have h2 : HT.sIx ds.length ds.length (some (k : Int)) = min k ds.length := HT.sIx_nat _ _ k
  rw [h1, h2, List.drop_zero, Nat.sub_zero, Nat.min_eq_left h]
theorem cut_drop {ds : List D} {k : Nat} (h : k ≤ ds.length) : cutD ds (some (k : Int)) none = ds.drop k := by
  unfold cutD
  have h1 : HT.sIx ds.length 0 (some (k : Int)) = min k ds.length := HT.sIx_nat _ _ k
  have h2 : HT.sIx ds.length ds.length none = ds.length := rfl
  rw [h1, h2, Nat.min_eq_left h, List.take_of_length_le (by simp)]
theorem cut_one {ds : List D} {k : Nat} (h : k < ds.length) : cutD ds (some (k : Int)) (some ((k : Int) + 1)) = [ds[k]] := by
  unfold cutD
  have h1 : HT.sIx ds.length 0 (some (k : Int)) = min k ds.length := HT.sIx_nat _ _ k
  have h2 : HT.sIx ds.length ds.length (some ((k : Int) + 1)) = min (k + 1) ds.length := HT.sIx_nat _ _ (k + 1)
  rw [h1, h2, Nat.min_eq_left (by omega), Nat.min_eq_left (by omega), show k + 1 - k = 1 by omega, List.drop_eq_getElem_cons h]
  rfl
theorem cut_drop1 {ds : List D} {k : Nat} (h : k < ds.length) : cutD ds (some ((k : Int) + 1)) none = ds.drop (k + 1) := cut_drop (k := k + 1) h
theorem mus_split {ds : List D} {k : Nat} (h : k < ds.length) : mus ds = mus (ds.take k) + (mu ds[k] + 2) + mus (ds.drop (k + 1)) := by
  have : ds = ds.take k ++ ds[k] :: ds.drop (k + 1) := by
    rw [← List.drop_eq_getElem_cons h, List.take_append_drop]
  conv => lhs; rw [this]
  rw [mus_app]
  simp only [mus]
  omega
theorem mu_str_int {i : Int} (h : i.natAbs < 10 ^ 12) : ((toString i : String) : Str).length ≤ 13 := PyData.shown_int_le h
theorem mu_text {x : String} (h : (x : Str).length ≤ 13) : mu (.str x) ≤ 132 := by
  have h2 : ∀ c ∈ (x : Str).cps.toList, c < 16 ^ 8 := by
    intro c hc
    have e : (x : Str).cps = (x.toList.map Char.toNat).toArray := by
      show (Str.ofString x).cps = _
      rw [Str.ofString_eq_toList]
    rw [e] at hc
    simp only [List.mem_map] at hc
    obtain ⟨ch, _, rfl⟩ := hc
    exact ch.val.toNat_lt
  have := StrLaws.reprText_len (x : Str) h2
  show (reprText (x : Str)).length ≤ 132
  omega
/-- what stands in it is not too long -/
def tl63 : D → Bool
  | .tup fs => decide (fs.length ≤ 63)
  | _ => true
def few2 : D → Bool
  | .tup es => es.all tl63
  | _ => true
theorem few_of {d : D} (h : few2 d = true) : few d := by
  unfold few
  split
  · rename_i a ds
    simp only [few2, List.all_cons, List.all_nil, Bool.and_true, Bool.and_eq_true, tl63, decide_eq_true_eq] at h
    omega
  · trivial
theorem rk_tl : ∀ (r : Nat) {d : D}, rk r d → tl63 d = true
  | 0, d, h => by obtain ⟨i, rfl, _⟩ := h; rfl
  | r + 1, d, h => by
    rcases h with ⟨i, rfl, _⟩ | ⟨ds, rfl, hl, _⟩
    · rfl
    · simp only [tl63, decide_eq_true_eq]; omega
theorem odd_tl {k W : Nat} {d : D} (o : Odd k W d) : tl63 d = true := by
  cases d <;> first | rfl | (simp only [tl63, decide_eq_true_eq]; exact o.len _ rfl)
theorem consts_few : ∀ d ∈ consts, few2 d = true := by
  have : consts.all few2 = true := by decide +kernel
  exact List.all_eq_true.mp this
section
variable {T : Nat → Option Def} {sub : Nat → Nat → Bool} {wf n : Nat}
theorem e_bent (hT : Ext T) : ∀ (r : Nat) {K : Nat} {p d : D}, rk r d → Pen K p → K + 10 * r + 10 ≤ 1000000 →
    ∃ (d' p' : D), Pen (K + 10 * r + 10) p' ∧ Odd (r + 3) (2 * mu d + 140) d' ∧ few2 d' = true ∧ callD T sub wf (n + 4 + r) 24 [.own true p, v d] = .ok false d' [.own true p', v d] := by
  intro r
  induction r with
  | zero =>
    intro K p d hr hp hK
    obtain ⟨i, rfl, hi⟩ := hr
    exact e_bent_int hT i hi hp hK 0
  | succ r ih =>
    intro K p d hr hp hK
    rcases hr with ⟨i, rfl, hi⟩ | ⟨ds, rfl, hl, hx⟩
    · obtain ⟨d', p', a, b, b2, c⟩ := e_bent_int hT i hi hp (by omega) (r + 1)
      exact ⟨d', p', a.mono (by omega), b.mono (by omega) (Nat.le_refl _), b2, c⟩
    · exact e_bent_tup hT hl hx hp hK ih
where
  e_bent_int (hT : Ext T) (i : Int) (hi : i.natAbs < 1000000) {K : Nat} {p : D} (hp : Pen K p) (hK : K + 10 * 0 + 10 ≤ 1000000) (r : Nat) :
      ∃ (d' p' : D), Pen (K + 10 * 0 + 10) p' ∧ Odd (0 + 3) (2 * mu (.int i) + 140) d' ∧ few2 d' = true ∧ callD T sub wf (n + 4 + r) 24 [.own true p, v (.int i)] = .ok false d' [.own true p', v (.int i)] := by
    rw [show n + 4 + r = (n + r) + 3 + 1 by omega]
    obtain ⟨t, p1, hp1, t0, t9, c1⟩ := e_take (sub := sub) (wf := wf) (n := n + r + 1) hT (m := 9) hp (by omega) (by omega) (by omega)
    have hcl : consts.length ≤ 1000 := by decide
    obtain ⟨d1, p2, hp2, hd1, c2⟩ := e_oneof (sub := sub) (wf := wf) (n := n + r) hT (ds := consts) hp1 (by omega) (by simp [consts]) hcl
    have st0 : evS (callD T sub wf (n + r + 3)) sub wf (.asg 2 (.lst [.cst .non, .cst (.bl true), .cst (.bl false), .cst (.int 0), .cst (.int 1), .op1 .neg (.cst (.int 1)), .cst (.int 2), .cst (.int 7), .cst (.str "a"), .cst (.str ""), .cst (.str "x"), .cst (.int 40), .tup [], .lst [], .dnil, .tup [.cst (.int 0)], .tup [.cst (.str "0")], .tup [.cst .non], .lst [.cst (.int 0)], .cst (.str "and")])) [.own true p, v (.int i), .no, .no, .no] = .nxt [.own true p, v (.int i), .own false (.lst consts), .no, .no] := by
      simp [consts]
    have ib : op1D (.isi [.bool]) (.int i) = some (false, .bl false) := rfl
    have ii : op1D (.isi [.int, .tuple, .str]) (.int i) = some (false, .bl true) := rfl
    have i1 : op1D (.isi [.int]) (.int i) = some (false, .bl true) := rfl
    by_cases h : t = 0
    · refine ⟨d1, p2, hp2.mono (by omega), (const_odd d1 hd1).mono (by omega) (by omega), consts_few d1 hd1, ?_⟩
      rw [call_eq (hT 24 _ rfl) rfl]
      simp only [B.b24, List.cons_append, List.nil_append, List.replicate]
      rw [ev_ss1, st0, nxt_bnd]
      generalize consts = C0 at *
      simp [ib, ii, c1, h, c2]
    · obtain ⟨S, hS⟩ : ∃ S : Str, S = ((toString i : String) : Str) := ⟨_, rfl⟩
      have os : op1D .str_ (.int i) = some (false, .str S) := by
        rw [hS]
        show (if i.natAbs < 10 ^ 60 then oStr (toString i : String) else none) = _
        rw [if_pos (small60 (by omega))]; rfl
      obtain ⟨m3, hm3⟩ : ∃ m3 : D, m3 = (if 0 ≤ i ∧ i < 2 then .bl (decide (i = 1)) else .non) := ⟨_, rfl⟩
      obtain ⟨vs, hvs⟩ : ∃ vs : List D, vs = [.int (i + 1), .int (-1), m3, .str S, .int (i + 9)] := ⟨_, rfl⟩
      obtain ⟨d2, p3, hp3, hd2, c3⟩ := e_oneof (sub := sub) (wf := wf) (n := n + r) hT (ds := vs) hp1 (by omega) (by rw [hvs]; simp) (by rw [hvs]; simp)
      refine ⟨d2, p3, hp3.mono (by omega), ?_, ?_, ?_⟩
      · have ok : ∀ j : Int, j.natAbs < 10000000 → Odd (0 + 3) (2 * mu (.int i) + 140) (.int j) := fun j hj => ⟨(Sh.int (small60 hj)).mono (by omega), .inl (NL.int.mono (by omega)), Nat.le_trans (mu_int (small12 hj)) (by omega), fun ds h => nomatch h⟩
        rw [hvs] at hd2
        simp only [List.mem_cons, List.not_mem_nil, or_false] at hd2
        rcases hd2 with rfl | rfl | rfl | rfl | rfl
        · exact ok _ (by omega)
        · exact ok _ (by omega)
        · rw [hm3]
          split
          · exact ⟨Sh.bl.mono (by omega), .inl ⟨fun n _ => by cases n <;> rfl⟩, by
              have : ∀ b : Bool, mu (.bl b) ≤ 10 := by decide +kernel
              exact Nat.le_trans (this _) (by omega), fun ds h => nomatch h⟩
          · exact ⟨Sh.non.mono (by omega), .inl ⟨fun n _ => by cases n <;> rfl⟩, Nat.le_trans (by decide +kernel : mu .non ≤ 10) (by omega), fun ds h => nomatch h⟩
        · have hl := mu_str_int (small12 (i := i) (by omega))
          rw [hS]
          refine ⟨(Sh.str (by omega)).mono (by omega), .inl ⟨fun n _ => by cases n <;> rfl⟩, ?_, fun ds h => nomatch h⟩
          exact Nat.le_trans (mu_text hl) (by omega)
        · exact ok _ (by omega)
      · rw [hvs] at hd2
        simp only [List.mem_cons, List.not_mem_nil, or_false] at hd2
        rcases hd2 with rfl | rfl | rfl | rfl | rfl <;> first | rfl | (rw [hm3]; split <;> rfl)
      · rw [call_eq (hT 24 _ rfl) rfl]
        simp only [B.b24, List.cons_append, List.nil_append, List.replicate]
        rw [ev_ss1, st0, nxt_bnd]
        have c3' := c3
        rw [hvs] at c3'
        generalize consts = C0 at *
        by_cases g1 : 0 ≤ i
        · by_cases g2 : i < 2
          · rw [hm3, if_pos ⟨g1, g2⟩] at c3'
            simp [ib, ii, i1, c1, h, os, g1, g2, c3']
          · rw [hm3, if_neg (fun z => g2 z.2)] at c3'
            simp [ib, ii, i1, c1, h, os, g1, g2, c3']
        · rw [hm3, if_neg (fun z => g1 z.1)] at c3'
          simp [ib, ii, i1, c1, h, os, g1, c3']
  e_bent_tup (hT : Ext T) {ds : List D} {r K : Nat} {p : D} (hl : ds.length ≤ 62) (hx : ∀ x ∈ ds, rk r x) (hp : Pen K p) (hK : K + 10 * (r + 1) + 10 ≤ 1000000)
      (ih : ∀ {K : Nat} {p d : D}, rk r d → Pen K p → K + 10 * r + 10 ≤ 1000000 → ∃ (d' p' : D), Pen (K + 10 * r + 10) p' ∧ Odd (r + 3) (2 * mu d + 140) d' ∧ few2 d' = true ∧ callD T sub wf (n + 4 + r) 24 [.own true p, v d] = .ok false d' [.own true p', v d]) :
      ∃ (d' p' : D), Pen (K + 10 * (r + 1) + 10) p' ∧ Odd (r + 1 + 3) (2 * mu (.tup ds) + 140) d' ∧ few2 d' = true ∧ callD T sub wf (n + 4 + (r + 1)) 24 [.own true p, v (.tup ds)] = .ok false d' [.own true p', v (.tup ds)] := by
    rw [show n + 4 + (r + 1) = (n + 4 + r) + 1 by omega]
    obtain ⟨t, p1, hp1, t0, t9, c1⟩ := e_take (sub := sub) (wf := wf) (n := n + r + 2) hT (m := 9) hp (by omega) (by omega) (by omega)
    rw [show n + r + 2 + 2 = n + 4 + r by omega] at c1
    have hcl : consts.length ≤ 1000 := by decide
    obtain ⟨d1, p2, hp2, hd1, c2⟩ := e_oneof (sub := sub) (wf := wf) (n := n + r + 1) hT (ds := consts) hp1 (by omega) (by simp [consts]) hcl
    rw [show n + r + 1 + 3 = n + 4 + r by omega] at c2
    have st0 : evS (callD T sub wf (n + 4 + r)) sub wf (.asg 2 (.lst [.cst .non, .cst (.bl true), .cst (.bl false), .cst (.int 0), .cst (.int 1), .op1 .neg (.cst (.int 1)), .cst (.int 2), .cst (.int 7), .cst (.str "a"), .cst (.str ""), .cst (.str "x"), .cst (.int 40), .tup [], .lst [], .dnil, .tup [.cst (.int 0)], .tup [.cst (.str "0")], .tup [.cst .non], .lst [.cst (.int 0)], .cst (.str "and")])) [.own true p, v (.tup ds), .no, .no, .no] = .nxt [.own true p, v (.tup ds), .own false (.lst consts), .no, .no] := by
      simp [consts]
    have ib : op1D (.isi [.bool]) (.tup ds) = some (false, .bl false) := rfl
    have ii : op1D (.isi [.int, .tuple, .str]) (.tup ds) = some (false, .bl true) := rfl
    have i1 : op1D (.isi [.int]) (.tup ds) = some (false, .bl false) := rfl
    have is : op1D (.isi [.str]) (.tup ds) = some (false, .bl false) := rfl
    have co := (const_odd d1 hd1).mono (by omega : 3 ≤ r + 1 + 3) (by omega : 60 ≤ 2 * mu (.tup ds) + 140)
    by_cases h : t = 0
    · refine ⟨d1, p2, hp2.mono (by omega), co, consts_few d1 hd1, ?_⟩
      rw [call_eq (hT 24 _ rfl) rfl]
      simp only [B.b24, List.cons_append, List.nil_append, List.replicate]
      rw [ev_ss1, st0, nxt_bnd]
      generalize consts = C0 at *
      simp [ib, ii, c1, h, c2]
    · by_cases he : ds.length = 0
      · refine ⟨d1, p2, hp2.mono (by omega), co, consts_few d1 hd1, ?_⟩
        have e0 : ds = [] := List.length_eq_zero_iff.mp he
        subst e0
        rw [call_eq (hT 24 _ rfl) rfl]
        simp only [B.b24, List.cons_append, List.nil_append, List.replicate]
        rw [ev_ss1, st0, nxt_bnd]
        generalize consts = C0 at *
        simp [ib, ii, i1, c1, h, c2]
      · obtain ⟨k, p3, hp3, k0, kl, c3⟩ := e_take (sub := sub) (wf := wf) (n := n + r + 2) hT (m := ds.length) hp1 (by omega) (by omega) (by omega)
        rw [show n + r + 2 + 2 = n + 4 + r by omega] at c3
        obtain ⟨w, p4, hp4, w0, w16, c4⟩ := e_take (sub := sub) (wf := wf) (n := n + r + 2) hT (m := 16) hp3 (by omega) (by omega) (by omega)
        rw [show n + r + 2 + 2 = n + 4 + r by omega] at c4
        obtain ⟨j, rfl⟩ := Int.eq_ofNat_of_zero_le k0
        have hj : j < ds.length := by omega
        have hne : ¬ ds = [] := fun z => he (by rw [z]; rfl)
        have k1 := cut_take (ds := ds) (k := j) (by omega)
        have k2 := cut_drop1 hj
        have k3 := cut_one hj
        have k4 := cut_drop (ds := ds) (k := j) (by omega)
        have ms := mus_split hj
        have hmu : mu (.tup ds) = mus ds + 3 := by simp [mu]
        have g : ds[j]? = some ds[j] := List.getElem?_eq_getElem hj
        have sub1 : ∀ x ∈ ds.take j, x ∈ ds := fun x hx => List.take_subset _ _ hx
        have sub2 : ∀ x ∈ ds.drop (j + 1), x ∈ ds := fun x hx => List.drop_subset _ _ hx
        have sub3 : ∀ x ∈ ds.drop j, x ∈ ds := fun x hx => List.drop_subset _ _ hx
        have tl1 : (ds.take j).length = j := by rw [List.length_take]; omega
        have tl2 : (ds.drop (j + 1)).length = ds.length - (j + 1) := List.length_drop ..
        have tl3 : (ds.drop j).length = ds.length - j := List.length_drop ..
        have fl : ∀ x ∈ ds, Flat r x := fun x hxx => rk_flat r (hx x hxx)
        have L := (show lim = 100000 from rfl)
        -- what stands ahead of the last two statements
        have pre : ∀ R : RS, evSs (callD T sub wf (n + 4 + r)) sub wf [.ifs (.val (.op2 .gt (.pk 4) (.cst (.int 3)))) [.ret (.op2 .add (.op2 .add (.sl (.pk 1) (.no) (.e (.pk 3))) (.tup [.call 24 [.io 0, .e (.op2 .idx (.pk 1) (.pk 3))]])) (.sl (.pk 1) (.e (.op2 .add (.pk 3) (.cst (.int 1)))) (.no)))] [],
            .ret (.op2 .idx (.lst [.op2 .add (.sl (.pk 1) (.no) (.e (.pk 3))) (.sl (.pk 1) (.e (.op2 .add (.pk 3) (.cst (.int 1)))) (.no)), .op2 .add (.op2 .add (.sl (.pk 1) (.no) (.e (.pk 3))) (.sl (.pk 1) (.e (.pk 3)) (.e (.op2 .add (.pk 3) (.cst (.int 1)))))) (.sl (.pk 1) (.e (.pk 3)) (.no)), .op1 .list (.pk 1), .op1 .rev (.pk 1)]) (.pk 4))] [.own true p4, v (.tup ds), .own false (.lst consts), v (.int j), v (.int w)] = R →
            callD T sub wf (n + 4 + r + 1) 24 [.own true p, v (.tup ds)] = fin [.own true p, v (.tup ds)] R := fun R hR => by
          rw [call_eq (hT 24 _ rfl) rfl]
          simp only [B.b24, List.cons_append, List.nil_append, List.replicate]
          have a1 : evS (callD T sub wf (n + 4 + r)) sub wf (.ifs (.or_ (.val (.op1 (.isi [.bool]) (.pk 1))) (.or_ (.not_ (.val (.op1 (.isi [.int, .tuple, .str]) (.pk 1)))) (.val (.op2 .eq (.call 15 [.io 0, .e (.cst (.int 9))]) (.cst (.int 0)))))) [.ret (.call 16 [.io 0, .e (.var 2)])] []) [.own true p, v (.tup ds), .own false (.lst consts), .no, .no] = .nxt [.own true p1, v (.tup ds), .own false (.lst consts), .no, .no] := by
            generalize consts = C0 at *
            simp [ib, ii, c1, h]
          have a2 : ∀ b, evS (callD T sub wf (n + 4 + r)) sub wf (.ifs (.val (.op1 (.isi [.int]) (.pk 1))) b []) [.own true p1, v (.tup ds), .own false (.lst consts), .no, .no] = .nxt [.own true p1, v (.tup ds), .own false (.lst consts), .no, .no] := fun b => by
            generalize consts = C0 at *
            simp [i1]
          have a3 : ∀ b, evS (callD T sub wf (n + 4 + r)) sub wf (.ifs (.val (.op2 .eq (.op1 .len (.pk 1)) (.cst (.int 0)))) b []) [.own true p1, v (.tup ds), .own false (.lst consts), .no, .no] = .nxt [.own true p1, v (.tup ds), .own false (.lst consts), .no, .no] := fun b => by
            generalize consts = C0 at *
            simp [hne]
          have a4 : evS (callD T sub wf (n + 4 + r)) sub wf (.par [3, 4] [.call 15 [.io 0, .e (.op1 .len (.pk 1))], .call 15 [.io 0, .e (.cst (.int 16))]]) [.own true p1, v (.tup ds), .own false (.lst consts), .no, .no] = .nxt [.own true p4, v (.tup ds), .own false (.lst consts), v (.int j), v (.int w)] := by
            generalize consts = C0 at *
            simp [c3, c4]
          have a5 : ∀ b, evS (callD T sub wf (n + 4 + r)) sub wf (.ifs (.val (.op1 (.isi [.str]) (.pk 1))) b []) [.own true p4, v (.tup ds), .own false (.lst consts), v (.int j), v (.int w)] = .nxt [.own true p4, v (.tup ds), .own false (.lst consts), v (.int j), v (.int w)] := fun b => by
            generalize consts = C0 at *
            simp [is]
          rw [ev_ss1, st0, nxt_bnd, ev_ss1, a1, nxt_bnd, ev_ss1, a2, nxt_bnd, ev_ss1, a3, nxt_bnd, ev_ss1, a4, nxt_bnd, ev_ss1, a5, nxt_bnd, hR]
        by_cases hw : 3 < w
        · obtain ⟨d5, p5, hp5, o5, _, c5⟩ := ih (hx ds[j] (List.getElem_mem hj)) hp4 (by omega)
          refine ⟨.tup (ds.take j ++ [d5] ++ ds.drop (j + 1)), p5, hp5.mono (by omega), ?_, ?_, ?_⟩
          · have mem : ∀ x ∈ ds.take j ++ [d5] ++ ds.drop (j + 1), x = d5 ∨ x ∈ ds := fun x hxx => by
              simp only [List.mem_append, List.mem_singleton] at hxx
              rcases hxx with (z | z) | z
              · exact .inr (sub1 x z)
              · exact .inl z
              · exact .inr (sub2 x z)
            refine ⟨(Sh.tup (k := r + 3) (fun x hxx => ?_) (by simp; omega)).mono (by omega), ?_, ?_, fun es he => ?_⟩
            · rcases mem x hxx with rfl | z
              · exact o5.sh
              · exact (fl x z).sh.mono (by omega)
            · rcases o5.mix with z | z
              · left
                refine (NL.tup (k := r + 3) fun x hxx => ?_).mono (by omega)
                rcases mem x hxx with rfl | y
                · exact z
                · exact (fl x y).nl.mono (by omega)
              · right
                refine (ND.tup (k := r + 3) fun x hxx => ?_).mono (by omega)
                rcases mem x hxx with rfl | y
                · exact z
                · exact (fl x y).nd.mono (by omega)
            · have := o5.mu
              simp only [mu, mus_app, mus] at *
              omega
            · cases he
              simp only [List.length_append, List.length_cons, List.length_nil]
              omega
          · refine List.all_eq_true.mpr fun x hxx => ?_
            simp only [List.mem_append, List.mem_singleton] at hxx
            rcases hxx with (z | z) | z
            · exact rk_tl r (hx x (sub1 x z))
            · rw [z]; exact odd_tl o5
            · exact rk_tl r (hx x (sub2 x z))
          · rw [pre (.ret false (.tup (ds.take j ++ [d5] ++ ds.drop (j + 1))) [.own true p5, v (.tup ds), .own false (.lst consts), v (.int j), v (.int w)]) ?_]
            · simp
            · have l1 : (ds.take j).length + 1 ≤ lim := by omega
              have l2 : (ds.take j).length + 1 + (ds.drop (j + 1)).length ≤ lim := by omega
              have l3 : (ds.take j ++ [d5]).length + (ds.drop (j + 1)).length ≤ lim := by rw [List.length_append]; simp only [List.length_cons, List.length_nil]; omega
              generalize consts = C0 at *
              generalize ds.take j = X1 at *
              generalize ds.drop (j + 1) = X2 at *
              simp [hw, slD, oTup, k1, k2, g, c5, l1, l2]
        · -- one of four
          have four : w = 0 ∨ w = 1 ∨ w = 2 ∨ w = 3 := by omega
          have tupOk : ∀ es : List D, (∀ x ∈ es, x ∈ ds) → es.length ≤ ds.length + 1 → mus es ≤ 2 * mus ds → Odd (r + 1 + 3) (2 * mu (.tup ds) + 140) (.tup es) := fun es h1 h2 h3 =>
            ⟨(Sh.tup (k := r) (fun x hxx => (fl x (h1 x hxx)).sh) (by omega)).mono (by omega), .inl ((NL.tup (k := r) fun x hxx => (fl x (h1 x hxx)).nl).mono (by omega)), by simp only [mu]; omega, fun fs hf => by cases hf; omega⟩
          have fewOk : ∀ es : List D, (∀ x ∈ es, x ∈ ds) → few2 (.tup es) = true := fun es h1 => List.all_eq_true.mpr fun x hxx => rk_tl r (hx x (h1 x hxx))
          have l1 : (ds.take j).length + (ds.drop (j + 1)).length ≤ lim := by omega
          have l2 : (ds.take j).length + 1 ≤ lim := by omega
          have l3 : (ds.take j ++ [ds[j]]).length + (ds.drop j).length ≤ lim := by rw [List.length_append]; simp only [List.length_cons, List.length_nil]; omega
          have l4 : (ds.take j).length + 1 + (ds.drop j).length ≤ lim := by omega
          obtain ⟨es, hes⟩ : ∃ es : List D, es = [.tup (ds.take j ++ ds.drop (j + 1)), .tup (ds.take j ++ [ds[j]] ++ ds.drop j), .lst ds, .tup ds.reverse] := ⟨_, rfl⟩
          have hlist : evE (callD T sub wf (n + 4 + r)) sub (.lst [.op2 .add (.sl (.pk 1) (.no) (.e (.pk 3))) (.sl (.pk 1) (.e (.op2 .add (.pk 3) (.cst (.int 1)))) (.no)), .op2 .add (.op2 .add (.sl (.pk 1) (.no) (.e (.pk 3))) (.sl (.pk 1) (.e (.pk 3)) (.e (.op2 .add (.pk 3) (.cst (.int 1)))))) (.sl (.pk 1) (.e (.pk 3)) (.no)), .op1 .list (.pk 1), .op1 .rev (.pk 1)]) [.own true p4, v (.tup ds), .own false (.lst consts), v (.int j), v (.int w)] = .ok (.fr, .lst es) [.own true p4, v (.tup ds), .own false (.lst consts), v (.int j), v (.int w)] := by
            rw [hes]
            generalize consts = C0 at *
            generalize ds[j] = dj at *
            generalize ds.take j = X1 at *
            generalize ds.drop (j + 1) = X2 at *
            generalize ds.drop j = X3 at *
            simp [slD, oTup, k1, k2, k3, k4, l1, l2, l4]
          have fin_ : ∀ (d' : D), atD es w = some d' → callD T sub wf (n + 4 + r + 1) 24 [.own true p, v (.tup ds)] = .ok false d' [.own true p4, v (.tup ds)] := fun d' hd' => by
            rw [pre (.ret false d' [.own true p4, v (.tup ds), .own false (.lst consts), v (.int j), v (.int w)]) ?_]
            · simp
            · have tst : evT (callD T sub wf (n + 4 + r)) sub (.val (.op2 .gt (.pk 4) (.cst (.int 3)))) [.own true p4, v (.tup ds), .own false (.lst consts), v (.int j), v (.int w)] = .ok false [.own true p4, v (.tup ds), .own false (.lst consts), v (.int j), v (.int w)] := by
                generalize consts = C0 at *
                simp [hw]
              rw [ev_ss1, ev_ifs, tst, toS_ok, if_neg (by simp), ev_ss0, nxt_bnd, ev_ss1, ev_ret, ev_op2, hlist, bnd_ok]
              generalize consts = C0 at *
              simp [hd']
          have drop_mu : mus (ds.drop j) = (mu ds[j] + 2) + mus (ds.drop (j + 1)) := by
            rw [List.drop_eq_getElem_cons hj]; simp only [mus]
          rcases four with rfl | rfl | rfl | rfl
          · refine ⟨.tup (ds.take j ++ ds.drop (j + 1)), p4, hp4.mono (by omega), tupOk _ (fun x hxx => (List.mem_append.mp hxx).elim (sub1 x) (sub2 x)) (by rw [List.length_append]; omega) (by rw [mus_app]; omega), fewOk _ (fun x hxx => (List.mem_append.mp hxx).elim (sub1 x) (sub2 x)), fin_ _ (by rw [hes]; rfl)⟩
          · have dup : ∀ x ∈ ds.take j ++ [ds[j]] ++ ds.drop j, x ∈ ds := fun x hxx => by
              simp only [List.mem_append, List.mem_singleton] at hxx
              rcases hxx with (z | z) | z
              · exact sub1 x z
              · rw [z]; exact List.getElem_mem hj
              · exact sub3 x z
            refine ⟨.tup (ds.take j ++ [ds[j]] ++ ds.drop j), p4, hp4.mono (by omega), tupOk _ dup (by rw [List.length_append, List.length_append]; simp only [List.length_cons, List.length_nil]; omega) (by rw [mus_app, mus_app]; simp only [mus]; omega), fewOk _ dup, fin_ _ (by rw [hes]; rfl)⟩
          · refine ⟨.lst ds, p4, hp4.mono (by omega), ⟨(Sh.lst (k := r) (fun x hxx => (fl x hxx).sh) (by omega)).mono (by omega), .inr ((ND.lst (k := r) fun x hxx => (fl x hxx).nd).mono (by omega)), by simp only [mu]; omega, fun fs hf => nomatch hf⟩, rfl, fin_ _ (by rw [hes]; rfl)⟩
          · refine ⟨.tup ds.reverse, p4, hp4.mono (by omega), tupOk _ (fun x hxx => List.mem_reverse.mp hxx) (by rw [List.length_reverse]; omega) (by rw [mus_rev]; omega), fewOk _ (fun x hxx => List.mem_reverse.mp hxx), fin_ _ (by rw [hes]; rfl)⟩
end
end M

set_option Elab.async false
set_option linter.all false
set_option maxRecDepth 100000
/-! Odd values; what is refused. -/
namespace M
open PySem Sb
theorem thing_of {d : D} (h1 : shows 20 d = true) (h2 : (noLst 20 d || noDct 20 d) = true) (h3 : (toPy d).shown.length ≤ lim) (hf : few d) : Thing d := by
  refine ⟨h1, hf, ?_⟩
  show (if shows 20 d && (noLst 20 d || noDct 20 d) && decide ((toPy d).shown.length ≤ lim) then oStr (toPy d).shown else none) = _
  rw [h1, h2, decide_eq_true h3]
  rfl
theorem cut_take' {ds : List D} {k : Nat} : cutD ds none (some (k : Int)) = ds.take k := by
  unfold cutD
  have h1 : HT.sIx ds.length 0 none = 0 := rfl
  have h2 : HT.sIx ds.length ds.length (some (k : Int)) = min k ds.length := HT.sIx_nat _ _ k
  rw [h1, h2, List.drop_zero, Nat.sub_zero, ← List.take_eq_take_min]
theorem cut_take1 {ds : List D} : cutD ds none (some 1) = ds.take 1 := cut_take' (k := 1)
def chain (k : Int) : List D := (rng k).map fun x => .tup [.int x, .int (x + 1)]
def oddA (m : Int) (W : List D) : List D := [.non, .int 7, .str "web", .tup [], .lst [], .dct [] [], .tup [.int m], .lst [.int m, .tup W], .tup [.int m, .lst W], .tup [.int m, .tup W, .int 0], .tup [.int (m + 1), .tup W], .tup [.int (m - 1), .tup W]]
def oddB (m : Int) (W : List D) : List D := [.tup [.int m, .tup (W.drop 1)], .tup [.int m, .tup W.reverse], .tup [.int m, .tup (W ++ W.take 1)], .tup [.int m, .tup (W ++ [.tup [.int 0, .int m]])], .tup [.int m, .tup (W ++ [.tup [.int 0, .int 0]])]]
def oddC : List D := [.tup [.int 1, .tup []], .tup [.int 2, .tup []], .tup [.int 2, .tup [.tup [.int 0, .int 1]]], .tup [.int 2, .tup [.tup [.int 1, .int 0]]], .tup [.bl true, .tup []], .tup [.int 2, .tup [.tup [.bl false, .int 1]]]]
def oddE : List D := [.tup [.int 3, .tup [.tup [.int 0, .int 1], .tup [.int 1, .int 2]]], .tup [.int 3, .tup [.tup [.int 0, .int 1]]], .tup [.int 4, .tup [.tup [.int 0, .int 1], .tup [.int 2, .int 3]]], .tup [.int 2, .tup [.tup [.int 0, .int 1, .int 1]]]]
def oddF : List D := [.tup [.int 2, .tup [.lst [.int 0, .int 1]]], .tup [.int 0, .tup []], .tup [.int 2, .tup [.int 0, .int 1]], .tup [.int 2, .str "01"]]
def oddG : List D := [.tup [.int 40, .tup (chain 39)], .tup [.int 41, .tup (chain 40)]]
structure TieL (ds : List D) : Prop where
  fl : ∀ x ∈ ds, Flat 1 x ∧ mu x ≤ 40
  ln : ds.length ≤ 62
theorem TieL.mus {ds : List D} (h : ∀ x ∈ ds, mu x ≤ 40) : mus ds ≤ 42 * ds.length := by
  induction ds with
  | nil => simp [M.mus]
  | cons x ds ih =>
    have h1 := h x List.mem_cons_self
    have h2 := ih fun y hy => h y (List.mem_cons_of_mem _ hy)
    simp only [M.mus, List.length_cons]
    omega
theorem TieL.flat {ds : List D} (t : TieL ds) : Flat 2 (.tup ds) ∧ mu (.tup ds) ≤ 2700 := by
  refine ⟨.tup (fun x hx => (t.fl x hx).1) (by have := t.ln; omega), ?_⟩
  have := TieL.mus fun x hx => (t.fl x hx).2
  have := t.ln
  simp only [mu]
  omega
theorem pair_flat {i j : Int} (h1 : i.natAbs < 1000000) (h2 : j.natAbs < 1000000) : Flat 1 (.tup [.int i, .int j]) ∧ mu (.tup [.int i, .int j]) ≤ 40 := by
  refine ⟨.tup (fun x hx => ?_) (by simp), ?_⟩
  · simp only [List.mem_cons, List.not_mem_nil, or_false] at hx
    rcases hx with rfl | rfl
    · exact .int (small60 (by omega))
    · exact .int (small60 (by omega))
  · have a := mu_int (small12 (i := i) (by omega))
    have b := mu_int (small12 (i := j) (by omega))
    simp only [mu, M.mus] at *
    omega
theorem pair_thing {i : Int} {ds : List D} (hi : i.natAbs < 1000000) (t : TieL ds) : Odd 3 2800 (.tup [.int i, .tup ds]) ∧ Thing (.tup [.int i, .tup ds]) := by
  obtain ⟨f, hm⟩ := t.flat
  have a := mu_int (small12 (i := i) (by omega))
  have o : Odd 3 2800 (.tup [.int i, .tup ds]) := by
    refine Flat.odd (.tup (k := 2) (fun x hx => ?_) (by simp)) ?_ fun es he => by cases he; simp
    · simp only [List.mem_cons, List.not_mem_nil, or_false] at hx
      rcases hx with rfl | rfl
      · exact (Flat.int (small60 (by omega))).mono (by omega)
      · exact f
    · simp only [mu, M.mus] at *
      omega
  exact ⟨o, o.thing (by omega) (by omega) (by have := t.ln; show ds.length < 64; omega)⟩
theorem chain_ties {k : Int} (h0 : 0 ≤ k) (h : k ≤ 60) : TieL (chain k) := by
  refine ⟨fun x hx => ?_, by unfold chain; rw [List.length_map, rng_len]; omega⟩
  obtain ⟨y, hy, rfl⟩ := List.mem_map.mp hx
  have := rng_mem.mp hy
  exact pair_flat (by omega) (by omega)
theorem fixed_things : (∀ x ∈ oddC, Thing x) ∧ (∀ x ∈ oddE, Thing x) ∧ (∀ x ∈ oddF, Thing x) ∧ ∀ x ∈ oddG, Thing x := by
  refine ⟨fun x hx => ?_, fun x hx => ?_, fun x hx => ?_, fun x hx => ?_⟩
  · simp only [oddC, List.mem_cons, List.not_mem_nil, or_false] at hx
    rcases hx with rfl | rfl | rfl | rfl | rfl | rfl <;> exact thing_of (by decide +kernel) (by decide +kernel) (by decide +kernel) (by simp [few])
  · simp only [oddE, List.mem_cons, List.not_mem_nil, or_false] at hx
    rcases hx with rfl | rfl | rfl | rfl <;> exact thing_of (by decide +kernel) (by decide +kernel) (by decide +kernel) (by simp [few])
  · simp only [oddF, List.mem_cons, List.not_mem_nil, or_false] at hx
    rcases hx with rfl | rfl | rfl | rfl <;> exact thing_of (by decide +kernel) (by decide +kernel) (by decide +kernel) (by simp [few])
  · simp only [oddG, List.mem_cons, List.not_mem_nil, or_false] at hx
    rcases hx with rfl | rfl
    · exact (pair_thing (by decide) (chain_ties (by decide) (by decide))).2
    · exact (pair_thing (by decide) (chain_ties (by decide) (by decide))).2
section
variable {m : Int} {ts : Ties}
theorem Web.ties (w : Web m ts) (h : ts.length ≤ 40) : TieL (ts.map pD) := by
  refine ⟨fun x hx => ?_, by rw [List.length_map]; omega⟩
  obtain ⟨p, hp, rfl⟩ := List.mem_map.mp hx
  have := w.tie hp
  have := w.hi
  exact pair_flat (by omega) (by omega)
theorem oddA_things (w : Web m ts) (h : ts.length ≤ 40) : ∀ x ∈ oddA m (ts.map pD), Thing x := by
  have t := w.ties h
  have lo := w.lo
  have hi := w.hi
  obtain ⟨f, hm⟩ := t.flat
  have a := mu_int (small12 (i := m) (by omega))
  have a0 := mu_int (small12 (i := 0) (by omega))
  generalize ts.map pD = W at *
  have fi : Flat 0 (.int m) := .int (small60 (by omega))
  intro x hx
  simp only [oddA, List.mem_cons, List.not_mem_nil, or_false] at hx
  rcases hx with rfl | rfl | rfl | rfl | rfl | rfl | rfl | rfl | rfl | rfl | rfl | rfl
  · exact thing_of (by decide +kernel) (by decide +kernel) (by decide +kernel) (by simp [few])
  · exact thing_of (by decide +kernel) (by decide +kernel) (by decide +kernel) (by simp [few])
  · exact thing_of (by decide +kernel) (by decide +kernel) (by decide +kernel) (by simp [few])
  · exact thing_of (by decide +kernel) (by decide +kernel) (by decide +kernel) (by simp [few])
  · exact thing_of (by decide +kernel) (by decide +kernel) (by decide +kernel) (by simp [few])
  · exact thing_of (by decide +kernel) (by decide +kernel) (by decide +kernel) (by simp [few])
  · have o : Odd 3 100000 (.tup [.int m]) := Flat.odd ((Flat.tup (k := 0) (fun x hx => by rw [List.mem_singleton.mp hx]; exact fi) (by simp)).mono (by omega)) (by simp only [mu, M.mus] at *; omega) fun es he => by cases he; simp
    exact o.thing (by omega) (by omega) (by simp [few])
  · have o : Odd 3 100000 (.lst [.int m, .tup W]) := by
      refine ⟨.lst (k := 2) (fun x hx => ?_) (by simp), .inr (.lst (k := 2) fun x hx => ?_), by simp only [mu, M.mus] at *; omega, fun es he => nomatch he⟩
      · simp only [List.mem_cons, List.not_mem_nil, or_false] at hx
        rcases hx with rfl | rfl
        · exact fi.sh.mono (by omega)
        · exact f.sh
      · simp only [List.mem_cons, List.not_mem_nil, or_false] at hx
        rcases hx with rfl | rfl
        · exact fi.nd.mono (by omega)
        · exact f.nd
    exact o.thing (by omega) (by omega) (by simp [few])
  · have o : Odd 3 100000 (.tup [.int m, .lst W]) := by
      refine ⟨.tup (k := 2) (fun x hx => ?_) (by simp), .inr (.tup (k := 2) fun x hx => ?_), by simp only [mu, M.mus] at *; omega, fun es he => by cases he; simp⟩
      · simp only [List.mem_cons, List.not_mem_nil, or_false] at hx
        rcases hx with rfl | rfl
        · exact fi.sh.mono (by omega)
        · exact .lst (fun x hx => (t.fl x hx).1.sh) (by have := t.ln; omega)
      · simp only [List.mem_cons, List.not_mem_nil, or_false] at hx
        rcases hx with rfl | rfl
        · exact fi.nd.mono (by omega)
        · exact .lst fun x hx => (t.fl x hx).1.nd
    exact o.thing (by omega) (by omega) (by simp [few])
  · have o : Odd 3 100000 (.tup [.int m, .tup W, .int 0]) := by
      refine Flat.odd (.tup (k := 2) (fun x hx => ?_) (by simp)) (by simp only [mu, M.mus] at *; omega) fun es he => by cases he; simp
      simp only [List.mem_cons, List.not_mem_nil, or_false] at hx
      rcases hx with rfl | rfl | rfl
      · exact fi.mono (by omega)
      · exact f
      · exact (Flat.int (small60 (by omega))).mono (by omega)
    exact o.thing (by omega) (by omega) (by simp [few])
  · exact (pair_thing (by omega) t).2
  · exact (pair_thing (by omega) t).2
theorem oddB_things (w : Web m ts) (h : ts.length ≤ 40) : ∀ x ∈ oddB m (ts.map pD), Thing x := by
  have t := w.ties h
  have lo := w.lo
  have hi := w.hi
  have hl : (ts.map pD).length ≤ 40 := by rw [List.length_map]; exact h
  generalize ts.map pD = W at *
  intro x hx
  simp only [oddB, List.mem_cons, List.not_mem_nil, or_false] at hx
  rcases hx with rfl | rfl | rfl | rfl | rfl
  · exact (pair_thing (by omega) ⟨fun x hx => t.fl x (List.drop_subset _ _ hx), by rw [List.length_drop]; omega⟩).2
  · exact (pair_thing (by omega) ⟨fun x hx => t.fl x (List.mem_reverse.mp hx), by rw [List.length_reverse]; omega⟩).2
  · exact (pair_thing (by omega) ⟨fun x hx => (List.mem_append.mp hx).elim (t.fl x) fun z => t.fl x (List.take_subset _ _ z), by rw [List.length_append, List.length_take]; omega⟩).2
  · exact (pair_thing (by omega) ⟨fun x hx => (List.mem_append.mp hx).elim (t.fl x) fun z => by rw [List.mem_singleton.mp z]; exact pair_flat (by omega) (by omega), by rw [List.length_append]; simp only [List.length_cons, List.length_nil]; omega⟩).2
  · exact (pair_thing (by omega) ⟨fun x hx => (List.mem_append.mp hx).elim (t.fl x) fun z => by rw [List.mem_singleton.mp z]; exact pair_flat (by omega) (by omega), by rw [List.length_append]; simp only [List.length_cons, List.length_nil]; omega⟩).2
def oddAll (m : Int) (W : List D) : List D := oddA m W ++ oddB m W ++ oddC ++ oddE ++ oddF ++ oddG
theorem odd_things (w : Web m ts) (h : ts.length ≤ 40) : ∀ x ∈ oddAll m (ts.map pD), Thing x := by
  intro x hx
  obtain ⟨f1, f2, f3, f4⟩ := fixed_things
  simp only [oddAll, List.mem_append] at hx
  rcases hx with ((((z | z) | z) | z) | z) | z
  · exact oddA_things w h x z
  · exact oddB_things w h x z
  · exact f1 x z
  · exact f2 x z
  · exact f3 x z
  · exact f4 x z
end
/-- the table holds the law's defs too -/
structure Ext31 (T : Nat → Option Def) : Prop where
  h31 : T 31 = some ⟨1, 6, B.b31⟩
  h32 : T 32 = some ⟨1, 2, B.b32⟩
  h33 : T 33 = some ⟨1, 3, B.b33⟩
  h34 : T 34 = some ⟨1, 10, B.b34⟩
  h35 : T 35 = some ⟨1, 13, B.b35⟩
section
variable {T : Nat → Option Def} {sub : Nat → Nat → Bool} {wf n : Nat} {m : Int} {ts : Ties}
theorem loop_chain {C : Cal} {k : Int} {e1 e2 e3 : D} {o3 : Slot} : loopC (cturn C sub [4, 5] (.nm 5) [] (.tup [.var 5, .op2 .add (.pk 5) (.cst (.int 1))])) ((rng k).map .int) [v e1, v e2, v e3, o3, .no, .no] = .ok (chain k) [v e1, v e2, v e3, o3, .no, .no] := by
  refine loopC_rng _ fun x hx => ?_
  simp [cturn]
theorem e_odd (hE : Ext31 T) (w : Web m ts) (h : ts.length ≤ 40) : callD T sub wf (n + 1) 31 [v (wD m ts)] = .ok true (.lst (oddAll m (ts.map pD))) [v (wD m ts)] := by
  rw [call_eq hE.h31 rfl]
  have hl : (ts.map pD).length ≤ 40 := by rw [List.length_map]; exact h
  obtain ⟨W, hW⟩ : ∃ W, W = ts.map pD := ⟨_, rfl⟩
  show fin [v (.tup [.int m, .tup (ts.map pD)])] (evSs (callD T sub wf n) sub wf B.b31 ([v (.tup [.int m, .tup (ts.map pD)])] ++ List.replicate (6 - 1) .no)) = .ok true (.lst (oddAll m (ts.map pD))) [v (.tup [.int m, .tup (ts.map pD)])]
  rw [← hW] at hl ⊢
  have L := (show lim = 100000 from rfl)
  have l1 : W.length + 1 ≤ lim := by omega
  have l2 : W.length + min 1 W.length ≤ lim := by omega
  have r39 : evI (callD T sub wf n) sub (.rng1 (.cst (.int 39))) [v (.tup [.int m, .tup W]), v (.int m), v (.tup W), .own false (.lst (oddA m W ++ oddB m W ++ oddC ++ oddE ++ oddF)), .no, .no] = .ok ((rng 39).map .int) [v (.tup [.int m, .tup W]), v (.int m), v (.tup W), .own false (.lst (oddA m W ++ oddB m W ++ oddC ++ oddE ++ oddF)), .no, .no] := by
    rw [ev_rng1, ev_cst, bnd_ok, stl_shr, ← rng_D]
    rfl
  have r40 : evI (callD T sub wf n) sub (.rng1 (.cst (.int 40))) [v (.tup [.int m, .tup W]), v (.int m), v (.tup W), .own false (.lst (oddA m W ++ oddB m W ++ oddC ++ oddE ++ oddF)), .no, .no] = .ok ((rng 40).map .int) [v (.tup [.int m, .tup W]), v (.int m), v (.tup W), .own false (.lst (oddA m W ++ oddB m W ++ oddC ++ oddE ++ oddF)), .no, .no] := by
    rw [ev_rng1, ev_cst, bnd_ok, stl_shr, ← rng_D]
    rfl
  have b39 : ((rng 39).map D.int).length ≤ lim := by decide
  have b40 : ((rng 40).map D.int).length ≤ lim := by decide
  have s1 : evS (callD T sub wf n) sub wf (.asgN [1, 2] (.var 0)) [v (.tup [.int m, .tup W]), .no, .no, .no, .no, .no] = .nxt [v (.tup [.int m, .tup W]), v (.int m), v (.tup W), .no, .no, .no] := by simp
  have s2 : evS (callD T sub wf n) sub wf (.asg 3 (.lst [.cst .non, .cst (.int 7), .cst (.str "web"), .tup [], .lst [], .dnil, .tup [.var 1], .lst [.var 1, .var 2], .tup [.var 1, .op1 .list (.pk 2)], .tup [.var 1, .var 2, .cst (.int 0)], .tup [.op2 .add (.pk 1) (.cst (.int 1)), .var 2], .tup [.op2 .sub (.pk 1) (.cst (.int 1)), .var 2]])) [v (.tup [.int m, .tup W]), v (.int m), v (.tup W), .no, .no, .no] = .nxt [v (.tup [.int m, .tup W]), v (.int m), v (.tup W), .own false (.lst (oddA m W)), .no, .no] := by
    simp [oddA]
  have al : (oddA m W).length = 12 := rfl
  have bl : (oddB m W).length = 5 := rfl
  have cl : oddC.length = 6 := rfl
  have el : oddE.length = 4 := rfl
  have fl : oddF.length = 4 := rfl
  have s3 : evS (callD T sub wf n) sub wf (.asg 3 (.op2 .add (.pk 3) (.lst [.tup [.var 1, .sl (.pk 2) (.e (.cst (.int 1))) (.no)], .tup [.var 1, .op1 .rev (.pk 2)], .tup [.var 1, .op2 .add (.pk 2) (.sl (.pk 2) (.no) (.e (.cst (.int 1))))], .tup [.var 1, .op2 .add (.pk 2) (.tup [.tup [.cst (.int 0), .var 1]])], .tup [.var 1, .op2 .add (.pk 2) (.tup [.tup [.cst (.int 0), .cst (.int 0)]])]]))) [v (.tup [.int m, .tup W]), v (.int m), v (.tup W), .own false (.lst (oddA m W)), .no, .no] = .nxt [v (.tup [.int m, .tup W]), v (.int m), v (.tup W), .own false (.lst (oddA m W ++ oddB m W)), .no, .no] := by
    have z : (oddA m W).length + 5 ≤ lim := by omega
    generalize oddA m W = X at *
    simp [oddB, slD, oTup, cutD_1, cut_take1, l1, l2, z, -List.drop_one]
  have s4 : evS (callD T sub wf n) sub wf (.asg 3 (.op2 .add (.pk 3) (.lst [.tup [.cst (.int 1), .tup []], .tup [.cst (.int 2), .tup []], .tup [.cst (.int 2), .tup [.tup [.cst (.int 0), .cst (.int 1)]]], .tup [.cst (.int 2), .tup [.tup [.cst (.int 1), .cst (.int 0)]]], .tup [.cst (.bl true), .tup []], .tup [.cst (.int 2), .tup [.tup [.cst (.bl false), .cst (.int 1)]]]]))) [v (.tup [.int m, .tup W]), v (.int m), v (.tup W), .own false (.lst (oddA m W ++ oddB m W)), .no, .no] = .nxt [v (.tup [.int m, .tup W]), v (.int m), v (.tup W), .own false (.lst (oddA m W ++ oddB m W ++ oddC)), .no, .no] := by
    have z : (oddA m W ++ oddB m W).length + 6 ≤ lim := by rw [List.length_append]; omega
    generalize oddA m W ++ oddB m W = X at *
    simp [oddC, z]
  have s5 : evS (callD T sub wf n) sub wf (.asg 3 (.op2 .add (.pk 3) (.lst [.tup [.cst (.int 3), .tup [.tup [.cst (.int 0), .cst (.int 1)], .tup [.cst (.int 1), .cst (.int 2)]]], .tup [.cst (.int 3), .tup [.tup [.cst (.int 0), .cst (.int 1)]]], .tup [.cst (.int 4), .tup [.tup [.cst (.int 0), .cst (.int 1)], .tup [.cst (.int 2), .cst (.int 3)]]], .tup [.cst (.int 2), .tup [.tup [.cst (.int 0), .cst (.int 1), .cst (.int 1)]]]]))) [v (.tup [.int m, .tup W]), v (.int m), v (.tup W), .own false (.lst (oddA m W ++ oddB m W ++ oddC)), .no, .no] = .nxt [v (.tup [.int m, .tup W]), v (.int m), v (.tup W), .own false (.lst (oddA m W ++ oddB m W ++ oddC ++ oddE)), .no, .no] := by
    have z : (oddA m W ++ oddB m W ++ oddC).length + 4 ≤ lim := by rw [List.length_append, List.length_append]; omega
    generalize oddA m W ++ oddB m W ++ oddC = X at *
    simp [oddE, z]
  have s6 : evS (callD T sub wf n) sub wf (.asg 3 (.op2 .add (.pk 3) (.lst [.tup [.cst (.int 2), .tup [.lst [.cst (.int 0), .cst (.int 1)]]], .tup [.cst (.int 0), .tup []], .tup [.cst (.int 2), .tup [.cst (.int 0), .cst (.int 1)]], .tup [.cst (.int 2), .cst (.str "01")]]))) [v (.tup [.int m, .tup W]), v (.int m), v (.tup W), .own false (.lst (oddA m W ++ oddB m W ++ oddC ++ oddE)), .no, .no] = .nxt [v (.tup [.int m, .tup W]), v (.int m), v (.tup W), .own false (.lst (oddA m W ++ oddB m W ++ oddC ++ oddE ++ oddF)), .no, .no] := by
    have z : (oddA m W ++ oddB m W ++ oddC ++ oddE).length + 4 ≤ lim := by rw [List.length_append, List.length_append, List.length_append]; omega
    generalize oddA m W ++ oddB m W ++ oddC ++ oddE = X at *
    simp [oddF, z]
  simp only [B.b31, List.cons_append, List.nil_append, List.replicate]
  rw [ev_ss1, s1, nxt_bnd, ev_ss1, s2, nxt_bnd, ev_ss1, s3, nxt_bnd, ev_ss1, s4, nxt_bnd, ev_ss1, s5, nxt_bnd, ev_ss1, s6, nxt_bnd]
  have z : (oddA m W ++ oddB m W ++ oddC ++ oddE ++ oddF).length + 2 ≤ lim := by rw [List.length_append, List.length_append, List.length_append, List.length_append]; omega
  unfold oddAll
  generalize oddA m W ++ oddB m W ++ oddC ++ oddE ++ oddF = X at *
  have lp1 := fun o3 => loop_chain (sub := sub) (C := callD T sub wf n) (k := 39) (e1 := .tup [.int m, .tup W]) (e2 := .int m) (e3 := .tup W) (o3 := o3)
  have lp2 := fun o3 => loop_chain (sub := sub) (C := callD T sub wf n) (k := 40) (e1 := .tup [.int m, .tup W]) (e2 := .int m) (e3 := .tup W) (o3 := o3)
  generalize (rng 39).map D.int = G1 at *
  generalize (rng 40).map D.int = G2 at *
  have lc1 : loopC (cturn (callD T sub wf n) sub [4, 5] (.nm 5) [] (.tup [.var 5, .op2 .add (.pk 5) (.cst (.int 1))])) G1 [v (.tup [.int m, .tup W]), v (.int m), v (.tup W), .own false (.lst X), .no, .no] = .ok (chain 39) [v (.tup [.int m, .tup W]), v (.int m), v (.tup W), .own false (.lst X), .no, .no] := lp1 _
  have lc2 : loopC (cturn (callD T sub wf n) sub [4, 5] (.nm 5) [] (.tup [.var 5, .op2 .add (.pk 5) (.cst (.int 1))])) G2 [v (.tup [.int m, .tup W]), v (.int m), v (.tup W), .own false (.lst X), .no, .no] = .ok (chain 40) [v (.tup [.int m, .tup W]), v (.int m), v (.tup W), .own false (.lst X), .no, .no] := lp2 _
  simp [-ev_rng1, r39, r40, b39, b40, lc1, lc2, z, oddG]
end
end M

set_option Elab.async false
set_option linter.all false
set_option maxRecDepth 100000
/-! What is refused; a great web. -/
namespace M
open PySem Sb
/-- the classes' order, as far as it is asked -/
structure Sub12 (sub : Nat → Nat → Bool) : Prop where
  s11 : sub 1 1 = true
  s22 : sub 2 2 = true
  s21 : sub 2 1 = false
theorem eq_web : op2D .eq (.lst [.str "web", .str "web", .str "web"]) (.lst [.str "web", .str "web", .str "web"]) = some (false, .bl true) := by
  show (if eqOk 20 _ && eqOk 20 _ then oBl (eqD (.lst [.str "web", .str "web", .str "web"]) (.lst [.str "web", .str "web", .str "web"])) else none) = _
  have h1 : eqOk 20 (.lst [.str "web", .str "web", .str "web"]) = true := by decide +kernel
  have h2 : eqD (.lst [.str "web", .str "web", .str "web"]) (.lst [.str "web", .str "web", .str "web"]) = true := by decide +kernel
  rw [h1, h2]; rfl
theorem ne_bay : op2D .ne (.lst [.str "bay", .str "bay", .str "bay"]) (.lst [.str "bay", .str "bay", .str "bay"]) = some (false, .bl false) := by
  show (if eqOk 20 _ && eqOk 20 _ then oBl (!eqD (.lst [.str "bay", .str "bay", .str "bay"]) (.lst [.str "bay", .str "bay", .str "bay"])) else none) = _
  have h1 : eqOk 20 (.lst [.str "bay", .str "bay", .str "bay"]) = true := by decide +kernel
  have h2 : eqD (.lst [.str "bay", .str "bay", .str "bay"]) (.lst [.str "bay", .str "bay", .str "bay"]) = true := by decide +kernel
  rw [h1, h2]; rfl
theorem rep3 {d : D} : op2D .mul (.lst [d]) (.int 3) = some (true, .lst [d, d, d]) := rfl
theorem o_neS {x : Str} : op2D .ne (.str x) (.str x) = some (false, .bl false) := by
  show (if eqOk 20 (.str x) && eqOk 20 (.str x) then oBl (!eqD (.str x) (.str x)) else oBl (!(x == x))) = _
  have h : eqD (.str x) (.str x) = true := by simp [eqD]
  rw [h]
  simp [oBl]
theorem o_eqS {x : Str} : op2D .eq (.str x) (.str x) = some (false, .bl true) := by
  show (if eqOk 20 (.str x) && eqOk 20 (.str x) then oBl (eqD (.str x) (.str x)) else oBl (x == x)) = _
  have h : eqD (.str x) (.str x) = true := by simp [eqD]
  rw [h]
  simp [oBl]
section
variable {T : Nat → Option Def} {sub : Nat → Nat → Bool} {wf n : Nat} {m : Int} {ts : Ties}
theorem e_refused (hT : Ext T) (hE : Ext31 T) (hs : Sub12 sub) {d : D} (t : Thing d) (hw : 300 ≤ wf) (hw2 : wf ≤ lim) (h : isWeb d = false) : callD T sub wf (n + 6) 32 [v d] = .ok false (.bl true) [v d] := by
  rw [call_eq hE.h32 rfl]
  have c1 := r_neigh (sub := sub) (wf := wf) (n := n) (x := .non) hT t.sh t.fw (by omega) hw2 h
  have c2 := r_path (sub := sub) (wf := wf) (n := n) (x := .non) (y := .non) hT t.sh t.fw (by omega) hw2 h
  have c3 := r_sides (sub := sub) (wf := wf) (n := n) hT t.sh t.fw (by omega) hw2 h
  have s11 := hs.s11
  have L : (1 : Nat) < lim := by decide
  have L2 : (2 : Nat) < lim := by decide
  have e := eq_web
  have r := rep3 (d := .str "web")
  generalize hS : ("web" : Str) = S at *
  simp [B.b32, hS, c1, c2, c3, s11, handle, L, L2, r, e, -o_mulL]
theorem e_baysright (hT : Ext T) (hE : Ext31 T) (hs : Sub12 sub) (w : Web m ts) (hw : 300 ≤ wf) (hw2 : wf ≤ lim) : callD T sub wf (n + 6) 33 [v (wD m ts)] = .ok false (.bl true) [v (wD m ts)] := by
  rw [call_eq hE.h33 rfl]
  have lo := w.lo
  have hi := w.hi
  have s11 := hs.s11
  have s22 := hs.s22
  have s21 := hs.s21
  obtain ⟨bs, hbs⟩ : ∃ bs : List D, bs = [.non, .int (-1), .int m, .bl true, .bl false, .str "0", .tup [.int 0], .lst [.int 0], .dct [] [], .int 100000000000000000000] := ⟨_, rfl⟩
  have bad : ∀ x ∈ bs, plainD x = true ∧ within x 0 (m - 1) = false := by
    rw [hbs]
    intro x hx
    simp only [List.mem_cons, List.not_mem_nil, or_false] at hx
    rcases hx with rfl | rfl | rfl | rfl | rfl | rfl | rfl | rfl | rfl | rfl
    · exact ⟨rfl, rfl⟩
    · exact ⟨rfl, rfl⟩
    · refine ⟨rfl, ?_⟩
      have : ¬ m ≤ m - 1 := by omega
      simp [within, this]
    · exact ⟨rfl, rfl⟩
    · exact ⟨rfl, rfl⟩
    · exact ⟨rfl, rfl⟩
    · exact ⟨rfl, rfl⟩
    · exact ⟨rfl, rfl⟩
    · exact ⟨rfl, rfl⟩
    · refine ⟨rfl, ?_⟩
      have : ¬ (100000000000000000000 : Int) ≤ m - 1 := by omega
      simp [within, this]
  obtain ⟨e', q, ⟨s1, s2, p1, p2, rfl⟩⟩ := for_fold (σ := Unit) (f := turn (callD T sub wf (n + 5)) sub wf (.nm 2) [.asg 1 (.lst [.lam 0 [(1, .str "web"), (2, .str "bay"), (0, .str "odd")] (.str "none") (.call 7 [.e (.var 0), .e (.var 2)])]),
      .app 1 (.lam 0 [(1, .str "web"), (2, .str "bay"), (0, .str "odd")] (.str "none") (.call 10 [.e (.var 0), .e (.var 2), .e (.cst .non)])),
      .app 1 (.lam 0 [(1, .str "web"), (2, .str "bay"), (0, .str "odd")] (.str "none") (.call 10 [.e (.var 0), .e (.cst (.int 0)), .e (.var 2)])),
      .ifs (.val (.op2 .ne (.pk 1) (.op2 .mul (.lst [.cst (.str "bay")]) (.cst (.int 3))))) [.ret (.cst (.bl false))] []])
    (fun _ e => ∃ s1 s2 : Slot, s1.pin = false ∧ s2.pin = false ∧ e = [v (wD m ts), s1, s2]) (fun s _ => s) (xs := bs) (s := ()) (e := [v (wD m ts), .no, .no]) (fun _ x e hx ⟨s1, s2, p1, p2, he⟩ => by
      subst he
      obtain ⟨hp, hwi⟩ := bad x hx
      have c1 := rb_neigh (sub := sub) (wf := wf) (n := n) hT w hp (by omega) hw2 hwi
      have c2 := rb_path1 (sub := sub) (wf := wf) (n := n) (y := .non) hT w hp (by omega) hw2 hwi
      have c3 := rb_path2 (sub := sub) (wf := wf) (n := n) (x := .int 0) hT w rfl hp (by omega) hw2 (within_int (by omega) (by omega)) hwi
      have L : (1 : Nat) < lim := by decide
      have L2 : (2 : Nat) < lim := by decide
      have e := ne_bay
      have r := rep3 (d := .str "bay")
      refine ⟨[v (wD m ts), .own false (.lst [.str "bay", .str "bay", .str "bay"]), v x], ?_, _, _, rfl, rfl, rfl⟩
      generalize hS : ("bay" : Str) = S at *
      generalize hS2 : ("web" : Str) = S2 at *
      generalize ts.map pD = G at *
      simp [turn, p1, p2, hS, hS2, c1, c2, c3, s22, s11, s21, handle, L, L2, r, e, -o_mulL]) ⟨.no, .no, rfl, rfl, rfl⟩
  have it : evI (callD T sub wf (n + 5)) sub (.seq (.lst [.cst .non, .op1 .neg (.cst (.int 1)), .op2 .idx (.pk 0) (.cst (.int 0)), .cst (.bl true), .cst (.bl false), .cst (.str "0"), .tup [.cst (.int 0)], .lst [.cst (.int 0)], .dnil, .op2 .pow (.cst (.int 10)) (.cst (.int 20))])) [v (wD m ts), .no, .no] = .ok bs [v (wD m ts), .no, .no] := by
    rw [hbs]
    generalize ts.map pD = G at *
    simp
  simp only [B.b33, List.cons_append, List.nil_append, List.replicate]
  rw [ev_ss1, ev_for, it, toS_ok, q, nxt_bnd]
  simp
/-! ### a great web -/
theorem norm_lt {p : Int × Int} (h : p.1 < p.2) : norm p = p := by
  unfold norm
  have h1 : ¬ p.2 < p.1 := by omega
  have h2 : p.2 > p.1 := h
  simp [h1, h2]
theorem great_raw {k : Int} (hk : 2 ≤ k) {cs : Ties} (h : ∀ p ∈ cs, 0 ≤ p.1 ∧ p.1 < p.2 ∧ p.2 < k) : Raw k (srtP (dedupP (((rng (k - 1)).map fun x => (x, x + 1)) ++ cs))) := by
  have mem : ∀ p, p ∈ srtP (dedupP (((rng (k - 1)).map fun x => (x, x + 1)) ++ cs)) ↔ (∃ x, 0 ≤ x ∧ x < k - 1 ∧ p = (x, x + 1)) ∨ p ∈ cs := fun p => by
    rw [srtP_mem, dedupP_mem, List.mem_append, List.mem_map]
    constructor
    · rintro (⟨x, hx, rfl⟩ | z)
      · have := rng_mem.mp hx; exact .inl ⟨x, this.1, this.2, rfl⟩
      · exact .inr z
    · rintro (⟨x, h1, h2, rfl⟩ | z)
      · exact .inl ⟨x, rng_mem.mpr ⟨h1, h2⟩, rfl⟩
      · exact .inr z
  have ok : ∀ p ∈ srtP (dedupP (((rng (k - 1)).map fun x => (x, x + 1)) ++ cs)), 0 ≤ p.1 ∧ p.1 < p.2 ∧ p.2 < k := fun p hp => by
    rcases (mem p).mp hp with ⟨x, h1, h2, rfl⟩ | z
    · simp only; omega
    · exact h p z
  refine ⟨fun p hp => okRaw_iff.mpr (by have := ok p hp; omega), ?_, fun P p0 hP x hx0 hxk => ?_⟩
  · have : (srtP (dedupP (((rng (k - 1)).map fun x => (x, x + 1)) ++ cs))).map norm = srtP (dedupP (((rng (k - 1)).map fun x => (x, x + 1)) ++ cs)) := by
      refine (List.map_congr_left fun p hp => norm_lt (ok p hp).2.1).trans (List.map_id _)
    rw [this]
    exact (srtP_inc (dedupP_nodup _)).nodup
  · obtain ⟨j, rfl⟩ := Int.eq_ofNat_of_zero_le hx0
    induction j with
    | zero => exact p0
    | succ j ih =>
      have := ih (by omega) (by omega)
      exact (hP ((j : Int), (j : Int) + 1) ((mem _).mpr (.inl ⟨j, by omega, by omega, rfl⟩))).mp this
theorem dedupP_len : ∀ l : Ties, (dedupP l).length ≤ l.length
  | [] => by simp [dedupP]
  | x :: l => by
    simp only [dedupP]
    have := dedupP_len l
    split <;> simp only [List.length_cons] <;> omega
theorem ints_odd {l : List Int} (h : ∀ x ∈ l, 0 ≤ x ∧ x < 1000) (hl : l.length ≤ 100) : (∀ n, 1 ≤ n → shows n (.lst (l.map .int)) = true) ∧ (∀ n, 1 ≤ n → noDct n (.lst (l.map .int)) = true) ∧ mu (.lst (l.map .int)) ≤ 15 * l.length + 3 := by
  have s : Sh 1 (.lst (l.map .int)) := .lst (fun x hx => by obtain ⟨y, hy, rfl⟩ := List.mem_map.mp hx; have := h y hy; exact .int (small60 (by omega))) (by rw [List.length_map]; omega)
  have d : ND 1 (.lst (l.map .int)) := .lst fun x hx => by obtain ⟨y, _, rfl⟩ := List.mem_map.mp hx; exact .int
  refine ⟨s.sh, d.h, ?_⟩
  have : ∀ l : List Int, (∀ x ∈ l, 0 ≤ x ∧ x < 1000) → mus (l.map .int) ≤ 15 * l.length := fun l => by
    induction l with
    | nil => intro _; simp [mus]
    | cons x l ih =>
      intro h
      have h1 := mu_int (small12 (i := x) (by have := h x List.mem_cons_self; omega))
      have h2 := ih fun y hy => h y (List.mem_cons_of_mem _ hy)
      simp only [List.map_cons, mus, List.length_cons]
      omega
  have := this l h
  simp only [mu]
  omega
theorem rp_ints {l : List Int} (h : ∀ x ∈ l, 0 ≤ x ∧ x < 1000) (hl : l.length ≤ 100) : op1D .repr_ (.lst (l.map .int)) = some (false, .str (toPy (.lst (l.map .int))).shown) := by
  obtain ⟨a, b, c⟩ := ints_odd h hl
  exact (Odd.thing (k := 1) (W := 2000) ⟨⟨a⟩, .inr ⟨b⟩, by omega, fun es he => nomatch he⟩ (by omega) (by omega) (by simp [few])).rp
theorem rp_three {a b c : List Int} (ha : ∀ x ∈ a, 0 ≤ x ∧ x < 1000) (hb : ∀ x ∈ b, 0 ≤ x ∧ x < 1000) (hc : ∀ x ∈ c, 0 ≤ x ∧ x < 1000) (la : a.length ≤ 100) (lb : b.length ≤ 100) (lc : c.length ≤ 100) :
    ∃ s, op1D .repr_ (.lst [.lst (a.map .int), .lst (b.map .int), .lst (c.map .int)]) = some (false, .str s) := by
  obtain ⟨a1, a2, a3⟩ := ints_odd ha la
  obtain ⟨b1, b2, b3⟩ := ints_odd hb lb
  obtain ⟨c1, c2, c3⟩ := ints_odd hc lc
  have o : Odd 2 6000 (.lst [.lst (a.map .int), .lst (b.map .int), .lst (c.map .int)]) := by
    refine ⟨.lst (k := 1) (fun x hx => ?_) (by simp), .inr (.lst (k := 1) fun x hx => ?_), ?_, fun es he => nomatch he⟩
    · simp only [List.mem_cons, List.not_mem_nil, or_false] at hx
      rcases hx with rfl | rfl | rfl
      · exact ⟨a1⟩
      · exact ⟨b1⟩
      · exact ⟨c1⟩
    · simp only [List.mem_cons, List.not_mem_nil, or_false] at hx
      rcases hx with rfl | rfl | rfl
      · exact ⟨a2⟩
      · exact ⟨b2⟩
      · exact ⟨c2⟩
    · simp only [mu, mus] at *
      omega
  exact ⟨_, (o.thing (by omega) (by omega) (by simp [few])).rp⟩
theorem rp_sides (w : Web m ts) {fs : Ties} : ∃ s, op1D .repr_ (sidesOf m ts fs) = some (false, .str s) := by
  unfold sidesOf
  split
  · exact ⟨_, (thing_of (d := .non) (by decide +kernel) (by decide +kernel) (by decide +kernel) (by simp [few])).rp⟩
  · have hi := w.hi
    have b : ∀ x ∈ ((rng m).map fun x => (lab fs x).fmod 2), 0 ≤ x ∧ x < 1000 := fun x hx => by
      obtain ⟨y, _, rfl⟩ := List.mem_map.mp hx
      have := fmod_bd (x := lab fs y) (p := 2) (by omega)
      omega
    have hl40 : ((rng m).map fun x => (lab fs x).fmod 2).length ≤ 40 := by rw [List.length_map, rng_len]; omega
    obtain ⟨a1, _, a3⟩ := ints_odd b (by omega)
    have e : ((rng m).map fun x => D.int ((lab fs x).fmod 2)) = ((rng m).map fun x => (lab fs x).fmod 2).map .int := by rw [List.map_map]; rfl
    rw [e]
    generalize ((rng m).map fun x => (lab fs x).fmod 2) = l at *
    have o : Odd 1 2000 (.tup (l.map .int)) := by
      refine ⟨.tup (k := 0) (fun x hx => ?_) (by rw [List.length_map]; omega), .inl (.tup (k := 0) fun x hx => ?_), ?_, fun es he => by cases he; rw [List.length_map]; omega⟩
      · obtain ⟨y, hy, rfl⟩ := List.mem_map.mp hx
        have := b y hy
        exact .int (small60 (by omega))
      · obtain ⟨y, hy, rfl⟩ := List.mem_map.mp hx
        exact .int
      · simp only [mu] at *
        omega
    have fw : few (.tup (l.map .int)) := by
      unfold few
      split
      · rename_i heq
        have heq := D.tup.inj heq
        cases l with
        | nil => cases heq
        | cons x l => cases l with
          | nil => cases heq
          | cons y l => simp only [List.map_cons, List.cons.injEq, reduceCtorEq, false_and, and_false] at heq
      · trivial
    exact ⟨_, (o.thing (by omega) (by omega) fw).rp⟩
end
end M

set_option Elab.async false
set_option linter.all false
set_option maxRecDepth 100000
/-! A great web drawn. -/
namespace M
open PySem Sb
section
variable {T : Nat → Option Def} {sub : Nat → Nat → Bool} {wf n : Nat} {m : Int} {ts : Ties}
theorem nearB_of (w : Web m ts) {a : Int} : (∀ x ∈ near ts a, 0 ≤ x ∧ x < 1000) ∧ (near ts a).length ≤ 100 := by
  refine ⟨fun x hx => by have := w.near hx; have := w.hi; omega, ?_⟩
  have : (near ts a).length ≤ ts.length := by unfold near; rw [srtI_len]; exact List.length_filterMap_le _ _
  have := w.few
  omega
/-- the ways' lengths -/
theorem wayB_of (hT : Ext T) (w : Web m ts) {a b : Int} (a0 : 0 ≤ a) (am : a < m) (b0 : 0 ≤ b) (bm : b < m) (hw : 300 ≤ wf) (hw2 : wf ≤ lim) : (∀ x ∈ path ts (dist ts b) b a, 0 ≤ x ∧ x < 1000) ∧ (path ts (dist ts b) b a).length ≤ 100 := by
  have few := w.few
  obtain ⟨_, hn⟩ := e_dist (sub := fun _ _ => false) (wf := wf) (n := 0) hT (d := .tup (ts.map pD)) (ts := ts) (b := b) rfl (by omega) hw2
  have ok := dist_ok hn
  have k : Ways m ts b (dist ts b) := ⟨ok, (w.dist b0 bm ok).1, by unfold ends; simp; omega, b0, bm⟩
  obtain ⟨h1, h2⟩ := path_len w k a0 am
  have hi := w.hi
  exact ⟨fun x hx => by have := h2 x hx; omega, by omega⟩
theorem e_great (hT : Ext T) (hE : Ext31 T) {K : Nat} {p : D} (hp : Pen K p) (hK : K + 1000 ≤ 1000000) (hw : 300 ≤ wf) (hw2 : wf ≤ lim) :
    ∃ p', Pen (K + 1000) p' ∧ callD T sub wf (n + 7) 34 [.own true p] = .ok false (.bl true) [.own true p'] := by
  have L := (show lim = 100000 from rfl)
  obtain ⟨t, p1, hp1, t0, t13, c1⟩ := e_take (sub := sub) (wf := wf) (n := n + 4) hT (m := 13) hp (by omega) (by omega) (by omega)
  obtain ⟨k, hk⟩ : ∃ k, k = 28 + t := ⟨_, rfl⟩
  have kb : 28 ≤ k ∧ k ≤ 40 := by omega
  obtain ⟨u, p2, hp2, u0, u4, c2⟩ := e_take (sub := sub) (wf := wf) (n := n + 4) hT (m := 4) hp1 (by omega) (by omega) (by omega)
  obtain ⟨R, hR⟩ : ∃ R : Ties, R = (rng (k - 1)).map fun x => (x, x + 1) := ⟨_, rfl⟩
  have Rl : R.length = (k - 1).toNat := by rw [hR, List.length_map, rng_len]
  -- ties more
  have loop : ∀ (xs : List Int) (q : D) (J : Nat) (cs : Ties) (s3 s4 : Slot), Pen J q → J + 2 * xs.length ≤ 1000000 → (∀ p ∈ cs, 0 ≤ p.1 ∧ p.1 < p.2 ∧ p.2 < k) → cs.length + xs.length ≤ 10 → s3.pin = false → s4.pin = false →
      ∃ (q' : D) (ds : Ties) (t3 t4 : Slot), Pen (J + 2 * xs.length) q' ∧ (∀ p ∈ ds, 0 ≤ p.1 ∧ p.1 < p.2 ∧ p.2 < k) ∧ ds.length ≤ 10 ∧ t3.pin = false ∧ t4.pin = false ∧
        loopF (turn (callD T sub wf (n + 6)) sub wf (.nm 3) [.asg 4 (.call 15 [.io 0, .e (.op2 .sub (.pk 1) (.cst (.int 6)))]), .app 2 (.tup [.var 4, .op2 .add (.op2 .add (.pk 4) (.cst (.int 3))) (.call 15 [.io 0, .e (.cst (.int 3))])])]) (xs.map .int)
          [.own true q, v (.int k), .own false (.lst ((R ++ cs).map pD)), s3, s4, .no, .no, .no, .no, .no] = .nxt [.own true q', v (.int k), .own false (.lst ((R ++ ds).map pD)), t3, t4, .no, .no, .no, .no, .no] := by
    intro xs
    induction xs with
    | nil => intro q J cs s3 s4 hq _ hc hl h3 h4; exact ⟨q, cs, s3, s4, hq, hc, by simpa using hl, h3, h4, rfl⟩
    | cons x xs ih =>
      intro q J cs s3 s4 hq hJ hc hl h3 h4
      simp only [List.length_cons] at hJ hl ⊢
      obtain ⟨a, q1, hq1, a0, am, c3⟩ := e_take (sub := sub) (wf := wf) (n := n + 4) hT (m := k - 6) hq (by omega) (by omega) (by omega)
      obtain ⟨b, q2, hq2, b0, bm, c4⟩ := e_take (sub := sub) (wf := wf) (n := n + 4) hT (m := 3) hq1 (by omega) (by omega) (by omega)
      obtain ⟨q', ds, t3, t4, d1, d2, d3, d4, d5, d6⟩ := ih q2 (J + 2) (cs ++ [(a, a + 3 + b)]) (v (.int x)) (v (.int a)) (hq2.mono (by omega)) (by omega) (fun p hp => by
        rcases List.mem_append.mp hp with z | z
        · exact hc p z
        · rw [List.mem_singleton.mp z]; simp only; omega) (by rw [List.length_append]; simp only [List.length_cons, List.length_nil]; omega) rfl rfl
      refine ⟨q', ds, t3, t4, d1.mono (by omega), d2, d3, d4, d5, ?_⟩
      rw [List.map_cons, loopF]
      have st : turn (callD T sub wf (n + 6)) sub wf (.nm 3) [.asg 4 (.call 15 [.io 0, .e (.op2 .sub (.pk 1) (.cst (.int 6)))]), .app 2 (.tup [.var 4, .op2 .add (.op2 .add (.pk 4) (.cst (.int 3))) (.call 15 [.io 0, .e (.cst (.int 3))])])] (.int x)
          [.own true q, v (.int k), .own false (.lst ((R ++ cs).map pD)), s3, s4, .no, .no, .no, .no, .no] = .nxt [.own true q2, v (.int k), .own false (.lst ((R ++ (cs ++ [(a, a + 3 + b)])).map pD)), v (.int x), v (.int a), .no, .no, .no, .no, .no] := by
        have e : (R ++ (cs ++ [(a, a + 3 + b)])).map pD = (R ++ cs).map pD ++ [.tup [.int a, .int (a + 3 + b)]] := by rw [← List.append_assoc, List.map_append]; rfl
        have l1 : ((R ++ cs).map pD).length < lim := by rw [List.length_map, List.length_append]; omega
        rw [e]
        generalize (R ++ cs).map pD = G at *
        simp [turn, h3, h4, c3, c4, l1]
      rw [st]
      exact d6
  have tl : (rng u).length ≤ 3 := by rw [rng_len]; omega
  obtain ⟨p3, cs, t3, t4, g1, g2, g3, g4, g5, g6⟩ := loop (rng u) p2 (K + 2) [(0, k - 1)] .no .no (hp2.mono (by omega)) (by omega) (fun p hp => by rw [List.mem_singleton.mp hp]; simp only; omega) (by simp; omega) rfl rfl
  obtain ⟨Z, hZ⟩ : ∃ Z : Ties, Z = srtP (dedupP (R ++ cs)) := ⟨_, rfl⟩
  have raw : Raw k Z := by rw [hZ, hR]; exact great_raw (by omega) g2
  have RCl : (R ++ cs).length < 64 := by rw [List.length_append]; omega
  have Zl : Z.length < 64 := by
    rw [hZ, (srtP_perm _).length_eq]
    have := dedupP_len (R ++ cs)
    omega
  have so : op1D .sset (.lst ((R ++ cs).map pD)) = some (true, .lst (Z.map pD)) := by
    rw [hZ]
    refine o_sset RCl (fun p hp => ?_) rfl
    rcases List.mem_append.mp hp with z | z
    · rw [hR] at z
      obtain ⟨x, hx, rfl⟩ := List.mem_map.mp z
      have := rng_mem.mp hx
      simp only; omega
    · have := g2 p z; omega
  obtain ⟨ns, p4, ts, w1, w, _, w3, w4⟩ := e_web (sub := sub) (wf := wf) (n := n + 3) hT g1 (by omega) raw (by omega) (by omega) Zl
  obtain ⟨a, p5, hp5, a0, ak, c5⟩ := e_take (sub := sub) (wf := wf) (n := n + 4) hT (m := k) w1 (by omega) (by omega) (by omega)
  obtain ⟨b, p6, hp6, b0, bk_, c6⟩ := e_take (sub := sub) (wf := wf) (n := n + 4) hT (m := k) hp5 (by omega) (by omega) (by omega)
  refine ⟨p6, hp6.mono (by omega), ?_⟩
  have i4 := e_isweb (sub := sub) (wf := wf) (n := n + 3) hT w.shows w.fewD (by omega) hw2
  rw [w.isWeb] at i4
  have i12 := e_sides (sub := sub) (wf := wf) (n := n + 1) hT w hw hw2
  have i30 := e_lawsides (sub := sub) (wf := wf) (n := n + 3) hT w hw hw2
  obtain ⟨ss, hss⟩ := rp_sides w (fs := dist ts 0)
  have f1 := e_firstpath (sub := sub) (wf := wf) (n := n + 1) hT w a0 ak b0 bk_ hw hw2
  have f2 := e_firstpath (sub := sub) (wf := wf) (n := n + 1) hT w b0 bk_ a0 ak hw hw2
  have f3 := e_neigh (sub := sub) (wf := wf) (n := n + 1) hT w a0 ak (by omega) hw2
  have h1 := e_lawpath (sub := sub) (wf := wf) (n := n + 3) hT w a0 ak b0 bk_ hw hw2
  have h2 := e_lawpath (sub := sub) (wf := wf) (n := n + 3) hT w b0 bk_ a0 ak hw hw2
  have h3 := e_near2 (sub := sub) (wf := wf) (n := n + 5) hT (d := .tup (ts.map pD)) (ts := ts) (b := a) rfl (by have := w.few; omega) w.ne
  have B1 := wayB_of hT w a0 ak b0 bk_ hw hw2
  have B2 := wayB_of hT w b0 bk_ a0 ak hw hw2
  have B3 := nearB_of w (a := a)
  obtain ⟨s3, hs3⟩ := rp_three B1.1 B2.1 B3.1 B1.2 B2.2 B3.2
  have ne := o_neS (x := ss)
  have eq := o_eqS (x := s3)
  have w4' := w4 (n + 5)
  have st1 : evS (callD T sub wf (n + 6)) sub wf (.asg 1 (.op2 .add (.cst (.int 28)) (.call 15 [.io 0, .e (.cst (.int 13))]))) [.own true p, .no, .no, .no, .no, .no, .no, .no, .no, .no] = .nxt [.own true p1, v (.int k), .no, .no, .no, .no, .no, .no, .no, .no] := by
    simp [c1, ← hk]
  have st2 : evS (callD T sub wf (n + 6)) sub wf (.asg 2 (.op2 .add (.comp (.rng1 (.op2 .sub (.pk 1) (.cst (.int 1)))) (.nm 9) [8, 9] [] (.tup [.var 9, .op2 .add (.pk 9) (.cst (.int 1))])) (.lst [.tup [.cst (.int 0), .op2 .sub (.pk 1) (.cst (.int 1))]]))) [.own true p1, v (.int k), .no, .no, .no, .no, .no, .no, .no, .no] = .nxt [.own true p1, v (.int k), .own false (.lst ((R ++ [(0, k - 1)]).map pD)), .no, .no, .no, .no, .no, .no, .no] := by
    have lp : loopC (cturn (callD T sub wf (n + 6)) sub [8, 9] (.nm 9) [] (.tup [.var 9, .op2 .add (.pk 9) (.cst (.int 1))])) ((rng (k - 1)).map .int) [.own true p1, v (.int k), .no, .no, .no, .no, .no, .no, .no, .no] = .ok (R.map pD) [.own true p1, v (.int k), .no, .no, .no, .no, .no, .no, .no, .no] := by
      rw [hR, List.map_map]
      refine loopC_rng _ fun x hx => ?_
      simp [cturn, pD]
    have it : evI (callD T sub wf (n + 6)) sub (.rng1 (.op2 .sub (.pk 1) (.cst (.int 1)))) [.own true p1, v (.int k), .no, .no, .no, .no, .no, .no, .no, .no] = .ok ((rng (k - 1)).map .int) [.own true p1, v (.int k), .no, .no, .no, .no, .no, .no, .no, .no] := by
      have e1 : evE (callD T sub wf (n + 6)) sub (.op2 .sub (.pk 1) (.cst (.int 1))) [.own true p1, v (.int k), .no, .no, .no, .no, .no, .no, .no, .no] = .ok (.shr, .int (k - 1)) [.own true p1, v (.int k), .no, .no, .no, .no, .no, .no, .no, .no] := by simp
      rw [ev_rng1, e1, bnd_ok, stl_shr, ← rng_D]
      show (if decide (-(2 ^ 62) ≤ k - 1) && decide (k - 1 ≤ (lim : Int)) then _ else _) = _
      rw [if_pos (by simp only [Bool.and_eq_true, decide_eq_true_eq]; exact ⟨by omega, by have : (lim : Int) = 100000 := rfl; omega⟩)]
    have l1 : ((rng (k - 1)).map D.int).length ≤ lim := by rw [List.length_map, rng_len]; omega
    have l2 : (R.map pD).length + 1 ≤ lim := by rw [List.length_map]; omega
    rw [List.map_append, show [(0, k - 1)].map pD = [D.tup [.int 0, .int (k - 1)]] from rfl]
    generalize (rng (k - 1)).map D.int = G at *
    generalize R.map pD = G2 at *
    simp [-ev_rng1, it, l1, lp, l2]
  have st3 : evI (callD T sub wf (n + 6)) sub (.rng1 (.call 15 [.io 0, .e (.cst (.int 4))])) [.own true p1, v (.int k), .own false (.lst ((R ++ [(0, k - 1)]).map pD)), .no, .no, .no, .no, .no, .no, .no] = .ok ((rng u).map .int) [.own true p2, v (.int k), .own false (.lst ((R ++ [(0, k - 1)]).map pD)), .no, .no, .no, .no, .no, .no, .no] := by
    have r := rng_D u
    have q1 : -4611686018427387904 ≤ u := by omega
    have q2 : u ≤ 100000 := by omega
    generalize (rng u).map D.int = G at *
    generalize (R ++ [(0, k - 1)]).map pD = G2 at *
    simp [c2, r, q1, q2]
  have st4 : evS (callD T sub wf (n + 6)) sub wf (.asg 5 (.tup [.var 1, .call 20 [.e (.op1 .sset (.pk 2)), .e (.call 19 [.io 0, .e (.var 1)])]])) [.own true p3, v (.int k), .own false (.lst ((R ++ cs).map pD)), t3, t4, .no, .no, .no, .no, .no] = .nxt [.own true p4, v (.int k), .own false (.lst ((R ++ cs).map pD)), t3, t4, v (wD k ts), .no, .no, .no, .no] := by
    show _ = RS.nxt [.own true p4, v (.int k), .own false (.lst ((R ++ cs).map pD)), t3, t4, v (.tup [.int k, .tup (ts.map pD)]), .no, .no, .no, .no]
    generalize (R ++ cs).map pD = G at *
    generalize Z.map pD = G2 at *
    generalize ts.map pD = G3 at *
    generalize ns.map D.int = G4 at *
    simp [so, w3, w4']
  have tst : evT (callD T sub wf (n + 6)) sub (.or_ (.val (.op2 .isnt (.call 4 [.e (.var 5)]) (.cst (.bl true)))) (.val (.op2 .ne (.op1 .repr_ (.call 12 [.e (.var 5)])) (.op1 .repr_ (.call 30 [.e (.var 5)]))))) [.own true p4, v (.int k), .own false (.lst ((R ++ cs).map pD)), t3, t4, v (wD k ts), .no, .no, .no, .no] = .ok false [.own true p4, v (.int k), .own false (.lst ((R ++ cs).map pD)), t3, t4, v (wD k ts), .no, .no, .no, .no] := by
    generalize (R ++ cs).map pD = G at *
    generalize wD k ts = W at *
    simp [i4, i12, i30, hss, ne]
  have st5 : evS (callD T sub wf (n + 6)) sub wf (.par [4, 6] [.call 15 [.io 0, .e (.var 1)], .call 15 [.io 0, .e (.var 1)]]) [.own true p4, v (.int k), .own false (.lst ((R ++ cs).map pD)), t3, t4, v (wD k ts), .no, .no, .no, .no] = .nxt [.own true p6, v (.int k), .own false (.lst ((R ++ cs).map pD)), t3, v (.int a), v (wD k ts), v (.int b), .no, .no, .no] := by
    generalize (R ++ cs).map pD = G at *
    simp [c5, c6, g5]
  have st6 : evS (callD T sub wf (n + 6)) sub wf (.asg 7 (.lst [.call 10 [.e (.var 5), .e (.var 4), .e (.var 6)], .call 10 [.e (.var 5), .e (.var 6), .e (.var 4)], .call 7 [.e (.var 5), .e (.var 4)]])) [.own true p6, v (.int k), .own false (.lst ((R ++ cs).map pD)), t3, v (.int a), v (wD k ts), v (.int b), .no, .no, .no] =
      .nxt [.own true p6, v (.int k), .own false (.lst ((R ++ cs).map pD)), t3, v (.int a), v (wD k ts), v (.int b), .own false (.lst [.lst ((path ts (dist ts b) b a).map .int), .lst ((path ts (dist ts a) a b).map .int), .lst ((near ts a).map .int)]), .no, .no] := by
    generalize (R ++ cs).map pD = G at *
    generalize wD k ts = W at *
    simp [f1, f2, f3]
  have st7 : evS (callD T sub wf (n + 6)) sub wf (.ret (.op2 .eq (.op1 .repr_ (.pk 7)) (.op1 .repr_ (.lst [.call 26 [.e (.var 5), .e (.var 4), .e (.var 6)], .call 26 [.e (.var 5), .e (.var 6), .e (.var 4)], .call 17 [.e (.op2 .idx (.pk 5) (.cst (.int 1))), .e (.var 4)]])))) [.own true p6, v (.int k), .own false (.lst ((R ++ cs).map pD)), t3, v (.int a), v (wD k ts), v (.int b), .own false (.lst [.lst ((path ts (dist ts b) b a).map .int), .lst ((path ts (dist ts a) a b).map .int), .lst ((near ts a).map .int)]), .no, .no] =
      .ret false (.bl true) [.own true p6, v (.int k), .own false (.lst ((R ++ cs).map pD)), t3, v (.int a), v (wD k ts), v (.int b), .own false (.lst [.lst ((path ts (dist ts b) b a).map .int), .lst ((path ts (dist ts a) a b).map .int), .lst ((near ts a).map .int)]), .no, .no] := by
    generalize (R ++ cs).map pD = G at *
    generalize (path ts (dist ts b) b a).map D.int = P1 at *
    generalize (path ts (dist ts a) a b).map D.int = P2 at *
    generalize (near ts a).map D.int = P3 at *
    simp [h1, h2, h3, hs3, eq]
  rw [call_eq hE.h34 rfl]
  simp only [B.b34, List.cons_append, List.nil_append, List.replicate]
  rw [ev_ss1, st1, nxt_bnd, ev_ss1, st2, nxt_bnd, ev_ss1, ev_for, st3, toS_ok, g6, nxt_bnd, ev_ss1, st4, nxt_bnd, ev_ss1, ev_ifs, tst, toS_ok, if_neg (by simp), ev_ss0, nxt_bnd, ev_ss1, st5, nxt_bnd, ev_ss1, st6, nxt_bnd, ev_ss1, st7, ret_bnd]
  simp
end
end M

set_option Elab.async false
set_option linter.all false
set_option maxRecDepth 100000
/-! The law of webs, whole. -/
namespace M
open PySem Sb
abbrev En (ns : List Int) (p : D) (s2 : Slot) (w tx : D) (s5 s6 s7 s8 s9 s10 : Slot) : Sb.Env := [v (.scr ns), .own false p, s2, v w, v tx, s5, s6, s7, s8, s9, s10, .no, .no]
theorem rp_bl {b : Bool} : ∃ s, op1D .repr_ (.bl b) = some (false, .str s) := by
  cases b
  · exact ⟨_, (thing_of (d := .bl false) (by decide +kernel) (by decide +kernel) (by decide +kernel) (by simp [few])).rp⟩
  · exact ⟨_, (thing_of (d := .bl true) (by decide +kernel) (by decide +kernel) (by decide +kernel) (by simp [few])).rp⟩
section
variable {T : Nat → Option Def} {sub : Nat → Nat → Bool} {wf n : Nat} {m : Int} {ts : Ties} {ns : List Int}
/-- all bays, all ways -/
theorem loop_bays (hT : Ext T) (w : Web m ts) (hw : 300 ≤ wf) (hw2 : wf ≤ lim) {p tx : D} {s2 s5 s6 s7 s8 s9 s10 : Slot} (h5 : s5.pin = false) (h6 : s6.pin = false) (h7 : s7.pin = false) :
    ∃ t5 t6 t7 : Slot, t5.pin = false ∧ t6.pin = false ∧ t7.pin = false ∧ loopF (turn (callD T sub wf (n + 7)) sub wf (.nm 5) [.asg 6 (.call 7 [.e (.var 3), .e (.var 5)]),
      .ifs (.val (.op2 .ne (.op1 .repr_ (.pk 6)) (.op1 .repr_ (.call 17 [.e (.op2 .idx (.pk 3) (.cst (.int 1))), .e (.var 5)])))) [.ret (.cst (.bl false))] [],
      .app 6 (.cst .non),
      .for_ (.rng1 (.op2 .idx (.pk 3) (.cst (.int 0)))) (.nm 7) [.asg 6 (.call 10 [.e (.var 3), .e (.var 5), .e (.var 7)]),
      .ifs (.val (.op2 .ne (.op1 .repr_ (.pk 6)) (.op1 .repr_ (.call 26 [.e (.var 3), .e (.var 5), .e (.var 7)])))) [.ret (.cst (.bl false))] [],
      .app 6 (.cst .non)]]) ((rng m).map .int) (En ns p s2 (wD m ts) tx s5 s6 s7 s8 s9 s10) = .nxt (En ns p s2 (wD m ts) tx t5 t6 t7 s8 s9 s10) := by
  have L := (show lim = 100000 from rfl)
  have lo := w.lo
  have hi := w.hi
  have itm : ∀ {s5 s6 s7 : Slot}, evI (callD T sub wf (n + 7)) sub (.rng1 (.op2 .idx (.pk 3) (.cst (.int 0)))) (En ns p s2 (wD m ts) tx s5 s6 s7 s8 s9 s10) = .ok ((rng m).map .int) (En ns p s2 (wD m ts) tx s5 s6 s7 s8 s9 s10) := fun {s5 s6 s7} => by
    have r := rng_D m
    have q1 : -4611686018427387904 ≤ m := by omega
    have q2 : m ≤ 100000 := by omega
    generalize (rng m).map D.int = G at *
    generalize ts.map pD = G3 at *
    simp [r, q1, q2]
  obtain ⟨e', q, t5, t6, t7, k5, k6, k7, rfl⟩ := for_fold (σ := Unit) (f := turn (callD T sub wf (n + 7)) sub wf (.nm 5) [.asg 6 (.call 7 [.e (.var 3), .e (.var 5)]),
      .ifs (.val (.op2 .ne (.op1 .repr_ (.pk 6)) (.op1 .repr_ (.call 17 [.e (.op2 .idx (.pk 3) (.cst (.int 1))), .e (.var 5)])))) [.ret (.cst (.bl false))] [],
      .app 6 (.cst .non),
      .for_ (.rng1 (.op2 .idx (.pk 3) (.cst (.int 0)))) (.nm 7) [.asg 6 (.call 10 [.e (.var 3), .e (.var 5), .e (.var 7)]),
      .ifs (.val (.op2 .ne (.op1 .repr_ (.pk 6)) (.op1 .repr_ (.call 26 [.e (.var 3), .e (.var 5), .e (.var 7)])))) [.ret (.cst (.bl false))] [],
      .app 6 (.cst .non)]])
    (fun _ e => ∃ t5 t6 t7 : Slot, t5.pin = false ∧ t6.pin = false ∧ t7.pin = false ∧ e = En ns p s2 (wD m ts) tx t5 t6 t7 s8 s9 s10) (fun s _ => s) (xs := (rng m).map .int) (s := ()) (e := En ns p s2 (wD m ts) tx s5 s6 s7 s8 s9 s10) (fun _ x e hx ⟨t5, t6, t7, k5, k6, k7, he⟩ => by
      subst he
      obtain ⟨b, hb, rfl⟩ := List.mem_map.mp hx
      have hb := rng_mem.mp hb
      -- the ways from b
      obtain ⟨e2, z1, u6, u7, j6, j7, z2⟩ := for_fold (σ := Unit) (f := turn (callD T sub wf (n + 7)) sub wf (.nm 7) [.asg 6 (.call 10 [.e (.var 3), .e (.var 5), .e (.var 7)]),
          .ifs (.val (.op2 .ne (.op1 .repr_ (.pk 6)) (.op1 .repr_ (.call 26 [.e (.var 3), .e (.var 5), .e (.var 7)])))) [.ret (.cst (.bl false))] [],
          .app 6 (.cst .non)])
        (fun _ e => ∃ t6 t7 : Slot, t6.pin = false ∧ t7.pin = false ∧ e = En ns p s2 (wD m ts) tx (v (.int b)) t6 t7 s8 s9 s10) (fun s _ => s) (xs := (rng m).map .int) (s := ()) (e := En ns p s2 (wD m ts) tx (v (.int b)) (.own false (.lst ((near ts b).map .int ++ [.non]))) t7 s8 s9 s10) (fun _ x e hx ⟨t6, t7, k6, k7, he⟩ => by
          subst he
          obtain ⟨o, ho, rfl⟩ := List.mem_map.mp hx
          have ho := rng_mem.mp ho
          have f1 := e_firstpath (sub := sub) (wf := wf) (n := n + 2) hT w hb.1 hb.2 ho.1 ho.2 hw hw2
          have f2 := e_lawpath (sub := sub) (wf := wf) (n := n + 4) hT w hb.1 hb.2 ho.1 ho.2 hw hw2
          have bd := wayB_of hT w hb.1 hb.2 ho.1 ho.2 hw hw2
          have rp := rp_ints bd.1 bd.2
          have ne := o_neS (x := (toPy (.lst ((path ts (dist ts o) o b).map .int))).shown)
          have l1 : ((path ts (dist ts o) o b).map D.int).length < lim := by rw [List.length_map]; omega
          refine ⟨En ns p s2 (wD m ts) tx (v (.int b)) (.own false (.lst ((path ts (dist ts o) o b).map .int ++ [.non]))) (v (.int o)) s8 s9 s10, ?_, _, _, rfl, rfl, rfl⟩
          generalize (path ts (dist ts o) o b).map D.int = P at *
          generalize wD m ts = W at *
          simp [turn, k6, k7, f1, f2, rp, ne, l1]) ⟨_, t7, rfl, k7, rfl⟩
      subst z2
      refine ⟨En ns p s2 (wD m ts) tx (v (.int b)) u6 u7 s8 s9 s10, ?_, _, _, _, rfl, j6, j7, rfl⟩
      have f3 := e_neigh (sub := sub) (wf := wf) (n := n + 2) hT w hb.1 hb.2 (by omega) hw2
      have h3 := e_near2 (sub := sub) (wf := wf) (n := n + 6) hT (d := .tup (ts.map pD)) (ts := ts) (b := b) rfl (by have := w.few; omega) w.ne
      have bd := nearB_of w (a := b)
      have rp := rp_ints bd.1 bd.2
      have ne := o_neS (x := (toPy (.lst ((near ts b).map .int))).shown)
      have l1 : ((near ts b).map D.int).length < lim := by rw [List.length_map]; omega
      have pre : evSs (callD T sub wf (n + 7)) sub wf [.asg 6 (.call 7 [.e (.var 3), .e (.var 5)]),
          .ifs (.val (.op2 .ne (.op1 .repr_ (.pk 6)) (.op1 .repr_ (.call 17 [.e (.op2 .idx (.pk 3) (.cst (.int 1))), .e (.var 5)])))) [.ret (.cst (.bl false))] [],
          .app 6 (.cst .non)] (En ns p s2 (wD m ts) tx (v (.int b)) t6 t7 s8 s9 s10) = .nxt (En ns p s2 (wD m ts) tx (v (.int b)) (.own false (.lst ((near ts b).map .int ++ [.non]))) t7 s8 s9 s10) := by
        generalize (near ts b).map D.int = P at *
        simp [k6, f3, h3, rp, ne, l1]
      have app : ∀ (a b : List IS) (e : Sb.Env), evSs (callD T sub wf (n + 7)) sub wf (a ++ b) e = (evSs (callD T sub wf (n + 7)) sub wf a e).bnd (evSs (callD T sub wf (n + 7)) sub wf b) := fun a b => by
        induction a with
        | nil => intro e; rw [List.nil_append, ev_ss0, nxt_bnd]
        | cons x a ih =>
          intro e
          rw [List.cons_append, ev_ss1, ev_ss1]
          cases evS (callD T sub wf (n + 7)) sub wf x e with
          | nxt e1 => exact ih e1
          | _ => rfl
      unfold turn
      rw [show asgT (.nm 5) (.int b) (En ns p s2 (wD m ts) tx t5 t6 t7 s8 s9 s10) = some (En ns p s2 (wD m ts) tx (v (.int b)) t6 t7 s8 s9 s10) by simp [k5], optB_some, show ∀ a b c d : IS, [a, b, c, d] = [a, b, c] ++ [d] from fun _ _ _ _ => rfl, app, pre, nxt_bnd, ev_ss1, ev_for, itm, toS_ok, z1, nxt_bnd, ev_ss0]) ⟨s5, s6, s7, h5, h6, h7, rfl⟩
  exact ⟨t5, t6, t7, k5, k6, k7, q⟩
/-- one thing looked at -/
theorem turn_thing (hT : Ext T) (hE : Ext31 T) (hs : Sub12 sub) (hw : 300 ≤ wf) (hw2 : wf ≤ lim) {p w tx x : D} {s2 s5 s6 s7 s8 s9 s10 : Slot} (t : Thing x) (h8 : s8.pin = false) (h9 : s9.pin = false) (h10 : s10.pin = false) :
    ∃ t9 t10 : Slot, t9.pin = false ∧ t10.pin = false ∧ turn (callD T sub wf (n + 7)) sub wf (.nm 8) [.par [9, 10] [.op1 .repr_ (.pk 8), .call 29 [.e (.var 8)]],
      .ifs (.or_ (.val (.op2 .ne (.op1 .repr_ (.call 4 [.e (.var 8)])) (.op1 .repr_ (.pk 10)))) (.val (.op2 .ne (.op1 .repr_ (.pk 8)) (.pk 9)))) [.ret (.cst (.bl false))] [],
      .ifs (.and_ (.not_ (.val (.pk 10))) (.not_ (.val (.call 32 [.e (.var 8)])))) [.ret (.cst (.bl false))] []] x (En ns p s2 w tx s5 s6 s7 s8 s9 s10) = .nxt (En ns p s2 w tx s5 s6 s7 (v x) t9 t10) := by
  have c1 := e_lawweb (sub := sub) (wf := wf) (n := n + 4) hT t.sh t.fw (by omega) hw2
  have c2 := e_isweb (sub := sub) (wf := wf) (n := n + 4) hT t.sh t.fw (by omega) hw2
  have rp := t.rp
  obtain ⟨sb, hsb⟩ := rp_bl (b := isWeb x)
  have ne1 := o_neS (x := sb)
  have ne2 := o_neS (x := (toPy x).shown)
  refine ⟨v (.str (toPy x).shown), v (.bl (isWeb x)), rfl, rfl, ?_⟩
  cases q : isWeb x with
  | true =>
    rw [q] at c1 c2 hsb
    simp [turn, h8, h9, h10, c1, c2, rp, hsb, ne1, ne2]
  | false =>
    have c3 := e_refused (sub := sub) (wf := wf) (n := n + 1) hT hE hs t hw hw2 q
    rw [q] at c1 c2 hsb
    simp [turn, h8, h9, h10, c1, c2, c3, rp, hsb, ne1, ne2]
theorem loop_things (hT : Ext T) (hE : Ext31 T) (hs : Sub12 sub) (hw : 300 ≤ wf) (hw2 : wf ≤ lim) {p w tx : D} {s2 s5 s6 s7 : Slot} : ∀ (xs : List D) (s8 s9 s10 : Slot), (∀ x ∈ xs, Thing x) → s8.pin = false → s9.pin = false → s10.pin = false →
    ∃ t8 t9 t10 : Slot, t8.pin = false ∧ t9.pin = false ∧ t10.pin = false ∧ loopF (turn (callD T sub wf (n + 7)) sub wf (.nm 8) [.par [9, 10] [.op1 .repr_ (.pk 8), .call 29 [.e (.var 8)]],
      .ifs (.or_ (.val (.op2 .ne (.op1 .repr_ (.call 4 [.e (.var 8)])) (.op1 .repr_ (.pk 10)))) (.val (.op2 .ne (.op1 .repr_ (.pk 8)) (.pk 9)))) [.ret (.cst (.bl false))] [],
      .ifs (.and_ (.not_ (.val (.pk 10))) (.not_ (.val (.call 32 [.e (.var 8)])))) [.ret (.cst (.bl false))] []]) xs (En ns p s2 w tx s5 s6 s7 s8 s9 s10) = .nxt (En ns p s2 w tx s5 s6 s7 t8 t9 t10)
  | [], s8, s9, s10, _, h8, h9, h10 => ⟨s8, s9, s10, h8, h9, h10, rfl⟩
  | x :: xs, s8, s9, s10, h, h8, h9, h10 => by
    obtain ⟨t9, t10, k9, k10, q⟩ := turn_thing (sub := sub) (wf := wf) (n := n) (ns := ns) hT hE hs hw hw2 (p := p) (w := w) (tx := tx) (s2 := s2) (s5 := s5) (s6 := s6) (s7 := s7) (h x List.mem_cons_self) h8 h9 h10
    obtain ⟨u8, u9, u10, j8, j9, j10, q2⟩ := loop_things hT hE hs hw hw2 (p := p) (w := w) (tx := tx) (s2 := s2) (s5 := s5) (s6 := s6) (s7 := s7) xs (v x) t9 t10 (fun y hy => h y (List.mem_cons_of_mem _ hy)) rfl k9 k10
    exact ⟨u8, u9, u10, j8, j9, j10, by rw [loopF, q]; exact q2⟩
/-- values bent, some of them -/
theorem loop_bent (hT : Ext T) (w : Web m ts) (ht : ts.length ≤ 40) {tx : D} {s2 s5 s6 s7 s8 s9 s10 : Slot} : ∀ (xs : List Int) (q : D) (K : Nat), Pen K q → K + 40 * xs.length ≤ 1000000 →
    ∃ (q' : D) (ds : List D), Pen (K + 40 * xs.length) q' ∧ (∀ d ∈ ds, Thing d) ∧ ds.length ≤ xs.length ∧ loopC (cturn (callD T sub wf (n + 7)) sub [11, 12] (.nm 12) [] (.call 24 [.io 1, .e (.var 3)])) (xs.map .int) (En ns q s2 (wD m ts) tx s5 s6 s7 s8 s9 s10) = .ok ds (En ns q' s2 (wD m ts) tx s5 s6 s7 s8 s9 s10)
  | [], q, K, hq, _ => ⟨q, [], hq, (fun _ h => nomatch h), by simp, rfl⟩
  | x :: xs, q, K, hq, hK => by
    simp only [List.length_cons] at hK ⊢
    have t := w.ties ht
    have lo := w.lo
    have hi := w.hi
    have rk3 : rk 3 (wD m ts) := by
      refine .inr ⟨_, rfl, by simp, fun y hy => ?_⟩
      simp only [List.mem_cons, List.not_mem_nil, or_false] at hy
      rcases hy with rfl | rfl
      · exact .inl ⟨m, rfl, by omega⟩
      · refine .inr ⟨_, rfl, by rw [List.length_map]; omega, fun z hz => ?_⟩
        obtain ⟨p, hp, rfl⟩ := List.mem_map.mp hz
        have := w.tie hp
        refine .inr ⟨_, rfl, by simp, fun u hu => ?_⟩
        simp only [List.mem_cons, List.not_mem_nil, or_false] at hu
        rcases hu with rfl | rfl
        · exact ⟨_, rfl, by omega⟩
        · exact ⟨_, rfl, by omega⟩
    obtain ⟨d, q1, hq1, o, o2, c⟩ := e_bent (sub := sub) (wf := wf) (n := n) hT 3 rk3 hq (by omega)
    obtain ⟨q2, ds, h1, h2, h3, h4⟩ := loop_bent hT w ht (tx := tx) (s2 := s2) (s5 := s5) (s6 := s6) (s7 := s7) (s8 := s8) (s9 := s9) (s10 := s10) xs q1 (K + 40) (hq1.mono (by omega)) (by omega)
    have hm : mu (wD m ts) ≤ 2800 := (pair_thing (i := m) (by omega) t).1.mu
    have fw : few d := few_of o2
    refine ⟨q2, d :: ds, h1.mono (by omega), fun y hy => ?_, by simp only [List.length_cons]; omega, ?_⟩
    · rcases List.mem_cons.mp hy with rfl | hy
      · exact o.thing (by omega) (by omega) fw
      · exact h2 y hy
    · have st : cturn (callD T sub wf (n + 7)) sub [11, 12] (.nm 12) [] (.call 24 [.io 1, .e (.var 3)]) (.int x) (En ns q s2 (wD m ts) tx s5 s6 s7 s8 s9 s10) = .ok (some d) (En ns q1 s2 (wD m ts) tx s5 s6 s7 s8 s9 s10) := by
        have c' : callD T sub wf (n + 7) 24 [.own true q, v (wD m ts)] = .ok false d [.own true q1, v (wD m ts)] := c
        generalize wD m ts = W at *
        simp [cturn, c']
      rw [List.map_cons, loopC, st, bnd_ok, h4, bnd_ok]
/-- one web -/
theorem turn_web (hT : Ext T) (hE : Ext31 T) (hs : Sub12 sub) (hw : 300 ≤ wf) (hw2 : wf ≤ lim) {K : Nat} {p : D} {x : Int} {s2 s3 s4 s5 s6 s7 s8 s9 s10 : Slot} (hp : Pen K p) (hK : K + 2000 ≤ 1000000)
    (h2 : s2.pin = false) (h3 : s3.pin = false) (h4 : s4.pin = false) (h5 : s5.pin = false) (h6 : s6.pin = false) (h7 : s7.pin = false) (h8 : s8.pin = false) (h9 : s9.pin = false) (h10 : s10.pin = false) {body : List IS}
    (hb : body = [.asg 3 (.call 23 [.io 1, .e (.cst (.int 8)), .e (.cst (.int 6))]),
      .asg 4 (.op1 .repr_ (.pk 3)),
      .for_ (.rng1 (.op2 .idx (.pk 3) (.cst (.int 0)))) (.nm 5) [.asg 6 (.call 7 [.e (.var 3), .e (.var 5)]),
      .ifs (.val (.op2 .ne (.op1 .repr_ (.pk 6)) (.op1 .repr_ (.call 17 [.e (.op2 .idx (.pk 3) (.cst (.int 1))), .e (.var 5)])))) [.ret (.cst (.bl false))] [],
      .app 6 (.cst .non),
      .for_ (.rng1 (.op2 .idx (.pk 3) (.cst (.int 0)))) (.nm 7) [.asg 6 (.call 10 [.e (.var 3), .e (.var 5), .e (.var 7)]),
      .ifs (.val (.op2 .ne (.op1 .repr_ (.pk 6)) (.op1 .repr_ (.call 26 [.e (.var 3), .e (.var 5), .e (.var 7)])))) [.ret (.cst (.bl false))] [],
      .app 6 (.cst .non)]],
      .ifs (.or_ (.val (.op2 .ne (.op1 .repr_ (.call 12 [.e (.var 3)])) (.op1 .repr_ (.call 30 [.e (.var 3)])))) (.val (.op2 .ne (.op1 .repr_ (.pk 3)) (.pk 4)))) [.ret (.cst (.bl false))] [],
      .for_ (.seq (.op2 .add (.op2 .add (.call 31 [.e (.var 3)]) (.lst [.var 3])) (.comp (.rng1 (.cst (.int 6))) (.nm 12) [11, 12] [] (.call 24 [.io 1, .e (.var 3)])))) (.nm 8) [.par [9, 10] [.op1 .repr_ (.pk 8), .call 29 [.e (.var 8)]],
      .ifs (.or_ (.val (.op2 .ne (.op1 .repr_ (.call 4 [.e (.var 8)])) (.op1 .repr_ (.pk 10)))) (.val (.op2 .ne (.op1 .repr_ (.pk 8)) (.pk 9)))) [.ret (.cst (.bl false))] [],
      .ifs (.and_ (.not_ (.val (.pk 10))) (.not_ (.val (.call 32 [.e (.var 8)])))) [.ret (.cst (.bl false))] []],
      .ifs (.not_ (.val (.call 33 [.e (.var 3)]))) [.ret (.cst (.bl false))] []]) :
    ∃ (p' : D) (t2 t3 t4 t5 t6 t7 t8 t9 t10 : Slot), Pen (K + 2000) p' ∧ t2.pin = false ∧ t3.pin = false ∧ t4.pin = false ∧ t5.pin = false ∧ t6.pin = false ∧ t7.pin = false ∧ t8.pin = false ∧ t9.pin = false ∧ t10.pin = false ∧
      turn (callD T sub wf (n + 7)) sub wf (.nm 2) body (.int x) [v (.scr ns), .own false p, s2, s3, s4, s5, s6, s7, s8, s9, s10, .no, .no] = .nxt [v (.scr ns), .own false p', t2, t3, t4, t5, t6, t7, t8, t9, t10, .no, .no] := by
  have L := (show lim = 100000 from rfl)
  obtain ⟨m, ts, p1, hp1, w, tl, m8, c1⟩ := e_anyweb (sub := sub) (wf := wf) (n := n + 2) hT (most := 8) (sz := 6) hp (by omega) (by omega) (by omega) (by omega) (by omega)
  have t := w.ties tl
  have lo := w.lo
  have hi := w.hi
  have thg := (pair_thing (i := m) (by omega) t).2
  have rp := thg.rp
  obtain ⟨tx, htx⟩ : ∃ tx : D, tx = .str (toPy (wD m ts)).shown := ⟨_, rfl⟩
  have rp' : op1D .repr_ (wD m ts) = some (false, tx) := by rw [htx]; exact rp
  obtain ⟨u5, u6, u7, k5, k6, k7, q1⟩ := loop_bays (sub := sub) (n := n) (ns := ns) hT w hw hw2 (p := p1) (tx := tx) (s2 := v (.int x)) (s8 := s8) (s9 := s9) (s10 := s10) h5 h6 h7
  obtain ⟨p2, ds, hp2, dt, dl, q2⟩ := loop_bent (sub := sub) (wf := wf) (n := n) (ns := ns) hT w tl (tx := tx) (s2 := v (.int x)) (s5 := u5) (s6 := u6) (s7 := u7) (s8 := s8) (s9 := s9) (s10 := s10) (rng 6) p1 (K + 1000) hp1 (by rw [rng_len]; omega)
  have r6 : (rng 6).length = 6 := by decide
  obtain ⟨things, hth⟩ : ∃ th : List D, th = oddAll m (ts.map pD) ++ [wD m ts] ++ ds := ⟨_, rfl⟩
  have ok : ∀ y ∈ things, Thing y := fun y hy => by
    rw [hth] at hy
    rcases List.mem_append.mp hy with z | z
    · rcases List.mem_append.mp z with z | z
      · exact odd_things w tl y z
      · rw [List.mem_singleton.mp z]; exact thg
    · exact dt y z
  obtain ⟨u8, u9, u10, k8, k9, k10, q3⟩ := loop_things (sub := sub) (n := n) (ns := ns) hT hE hs hw hw2 (p := p2) (w := wD m ts) (tx := tx) (s2 := v (.int x)) (s5 := u5) (s6 := u6) (s7 := u7) things s8 s9 s10 ok h8 h9 h10
  have i12 := e_sides (sub := sub) (wf := wf) (n := n + 2) hT w hw hw2
  have i30 := e_lawsides (sub := sub) (wf := wf) (n := n + 4) hT w hw hw2
  obtain ⟨ss, hss⟩ := rp_sides w (fs := dist ts 0)
  have ne := o_neS (x := ss)
  have ne2 : op2D .ne tx tx = some (false, .bl false) := by rw [htx]; exact o_neS
  have c31 := e_odd (sub := sub) (wf := wf) (n := n + 6) hE w tl
  have c33 := e_baysright (sub := sub) (wf := wf) (n := n + 1) hT hE hs w hw hw2
  have olen : (oddAll m (ts.map pD)).length ≤ 100 := by
    unfold oddAll
    simp only [List.length_append]
    have a1 : (oddA m (ts.map pD)).length = 12 := rfl
    have a2 : (oddB m (ts.map pD)).length = 5 := rfl
    have a3 : oddC.length = 6 := rfl
    have a4 : oddE.length = 4 := rfl
    have a5 : oddF.length = 4 := rfl
    have a6 : oddG.length = 2 := rfl
    omega
  refine ⟨p2, v (.int x), v (wD m ts), v tx, u5, u6, u7, u8, u9, u10, hp2.mono (by omega), rfl, rfl, rfl, k5, k6, k7, k8, k9, k10, ?_⟩
  have st1 : evS (callD T sub wf (n + 7)) sub wf (.asg 3 (.call 23 [.io 1, .e (.cst (.int 8)), .e (.cst (.int 6))])) [v (.scr ns), .own false p, v (.int x), s3, s4, s5, s6, s7, s8, s9, s10, .no, .no] = .nxt [v (.scr ns), .own false p1, v (.int x), v (wD m ts), s4, s5, s6, s7, s8, s9, s10, .no, .no] := by
    have c1' : callD T sub wf (n + 7) 23 [.own true p, v (.int 8), v (.int 6)] = .ok false (wD m ts) [.own true p1, v (.int 8), v (.int 6)] := c1
    generalize wD m ts = W at *
    simp [c1', h3]
  have st2 : evS (callD T sub wf (n + 7)) sub wf (.asg 4 (.op1 .repr_ (.pk 3))) [v (.scr ns), .own false p1, v (.int x), v (wD m ts), s4, s5, s6, s7, s8, s9, s10, .no, .no] = .nxt (En ns p1 (v (.int x)) (wD m ts) tx s5 s6 s7 s8 s9 s10) := by
    generalize wD m ts = W at *
    simp [rp', h4]
  have st3 : evI (callD T sub wf (n + 7)) sub (.rng1 (.op2 .idx (.pk 3) (.cst (.int 0)))) (En ns p1 (v (.int x)) (wD m ts) tx s5 s6 s7 s8 s9 s10) = .ok ((rng m).map .int) (En ns p1 (v (.int x)) (wD m ts) tx s5 s6 s7 s8 s9 s10) := by
    have r := rng_D m
    have g1 : -4611686018427387904 ≤ m := by omega
    have g2 : m ≤ 100000 := by omega
    generalize (rng m).map D.int = G at *
    simp [r, g1, g2]
  have st4 : evT (callD T sub wf (n + 7)) sub (.or_ (.val (.op2 .ne (.op1 .repr_ (.call 12 [.e (.var 3)])) (.op1 .repr_ (.call 30 [.e (.var 3)])))) (.val (.op2 .ne (.op1 .repr_ (.pk 3)) (.pk 4)))) (En ns p1 (v (.int x)) (wD m ts) tx u5 u6 u7 s8 s9 s10) = .ok false (En ns p1 (v (.int x)) (wD m ts) tx u5 u6 u7 s8 s9 s10) := by
    generalize wD m ts = W at *
    simp [i12, i30, hss, ne, rp', ne2]
  have st5 : evI (callD T sub wf (n + 7)) sub (.seq (.op2 .add (.op2 .add (.call 31 [.e (.var 3)]) (.lst [.var 3])) (.comp (.rng1 (.cst (.int 6))) (.nm 12) [11, 12] [] (.call 24 [.io 1, .e (.var 3)])))) (En ns p1 (v (.int x)) (wD m ts) tx u5 u6 u7 s8 s9 s10) = .ok things (En ns p2 (v (.int x)) (wD m ts) tx u5 u6 u7 s8 s9 s10) := by
    have it : evI (callD T sub wf (n + 7)) sub (.rng1 (.cst (.int 6))) (En ns p1 (v (.int x)) (wD m ts) tx u5 u6 u7 s8 s9 s10) = .ok ((rng 6).map .int) (En ns p1 (v (.int x)) (wD m ts) tx u5 u6 u7 s8 s9 s10) := by
      rw [ev_rng1, ev_cst, bnd_ok, stl_shr, ← rng_D]
      rfl
    have l0 : ((rng 6).map D.int).length ≤ lim := by decide
    have l1 : (oddAll m (ts.map pD)).length + 1 ≤ lim := by omega
    have l2 : (oddAll m (ts.map pD)).length + 1 + ds.length ≤ lim := by omega
    rw [hth]
    generalize (rng 6).map D.int = G6 at *
    generalize oddAll m (ts.map pD) = O at *
    generalize wD m ts = W at *
    simp [-ev_rng1, c31, it, l0, q2, l1, l2]
  have st6 : evT (callD T sub wf (n + 7)) sub (.not_ (.val (.call 33 [.e (.var 3)]))) (En ns p2 (v (.int x)) (wD m ts) tx u5 u6 u7 u8 u9 u10) = .ok false (En ns p2 (v (.int x)) (wD m ts) tx u5 u6 u7 u8 u9 u10) := by
    generalize wD m ts = W at *
    simp [c33]
  rw [hb]
  unfold turn
  rw [show asgT (.nm 2) (.int x) [v (.scr ns), .own false p, s2, s3, s4, s5, s6, s7, s8, s9, s10, .no, .no] = some [v (.scr ns), .own false p, v (.int x), s3, s4, s5, s6, s7, s8, s9, s10, .no, .no] by simp [h2], optB_some, ev_ss1, st1, nxt_bnd, ev_ss1, st2, nxt_bnd, ev_ss1, ev_for, st3, toS_ok, q1, nxt_bnd, ev_ss1, ev_ifs, st4, toS_ok, if_neg (by simp), ev_ss0, nxt_bnd, ev_ss1, ev_for, st5, toS_ok, q3, nxt_bnd, ev_ss1, ev_ifs, st6, toS_ok, if_neg (by simp), ev_ss0, nxt_bnd, ev_ss0]
theorem e_law31 (hT : Ext T) (hE : Ext31 T) (hs : Sub12 sub) (hw : 300 ≤ wf) (hw2 : wf ≤ lim) (hl : ns.length ≤ 63) : ∃ ss', callD T sub wf (n + 8) 35 [v (.scr ns)] = .ok false (.bl true) ss' := by
  obtain ⟨cells, hc, c0⟩ := e_open (sub := sub) (wf := wf) (n := n + 6) hT hl
  have hp0 : Pen 0 (.lst [.lst (cells.map .int), .int 0, .int 0]) := ⟨cells, 0, 0, rfl, hc, by omega, by omega⟩
  obtain ⟨p0, hp0e⟩ : ∃ p0, p0 = D.lst [.lst (cells.map .int), .int 0, .int 0] := ⟨_, rfl⟩
  rw [← hp0e] at c0 hp0
  obtain ⟨p1, t2, t3, t4, t5, t6, t7, t8, t9, t10, hp1, k2, k3, k4, k5, k6, k7, k8, k9, k10, q1⟩ := turn_web (n := n) (ns := ns) hT hE hs hw hw2 (x := 0) (s2 := .no) (s3 := .no) (s4 := .no) (s5 := .no) (s6 := .no) (s7 := .no) (s8 := .no) (s9 := .no) (s10 := .no) hp0 (by omega) rfl rfl rfl rfl rfl rfl rfl rfl rfl rfl
  obtain ⟨p2, u2, u3, u4, u5, u6, u7, u8, u9, u10, hp2, _, _, _, _, _, _, _, _, _, q2⟩ := turn_web (n := n) (ns := ns) hT hE hs hw hw2 (x := 1) hp1 (by omega) k2 k3 k4 k5 k6 k7 k8 k9 k10 rfl
  obtain ⟨p3, hp3, c34⟩ := e_great (sub := sub) (wf := wf) (n := n) hT hE hp2 (by omega) hw hw2
  refine ⟨[v (.scr ns)], ?_⟩
  rw [call_eq hE.h35 rfl]
  simp only [B.b35, List.cons_append, List.nil_append, List.replicate]
  have st0 : evS (callD T sub wf (n + 7)) sub wf (.asg 1 (.call 13 [.e (.var 0)])) [v (.scr ns), .no, .no, .no, .no, .no, .no, .no, .no, .no, .no, .no, .no] = .nxt [v (.scr ns), .own false p0, .no, .no, .no, .no, .no, .no, .no, .no, .no, .no, .no] := by
    simp [c0]
  have it : evI (callD T sub wf (n + 7)) sub (.rng1 (.cst (.int 2))) [v (.scr ns), .own false p0, .no, .no, .no, .no, .no, .no, .no, .no, .no, .no, .no] = .ok [.int 0, .int 1] [v (.scr ns), .own false p0, .no, .no, .no, .no, .no, .no, .no, .no, .no, .no, .no] := by
    rw [ev_rng1, ev_cst, bnd_ok, stl_shr]
    rfl
  rw [ev_ss1, st0, nxt_bnd, ev_ss1, ev_for, it, toS_ok, loopF, q1]
  simp only
  rw [loopF, q2]
  simp only [loopF, nxt_bnd]
  simp [c34]
end
end M

set_option Elab.async false
set_option linter.all false
set_option maxRecDepth 100000
/-! The end of sparebay_k31_webs. Written by genlaw.py. -/
namespace K31
open PySem PySem.Spec PyProof.Rows L2 Sb
def top (i : Nat) : Stmt := PySem.Challenge.pw_sparebay_k31_webs.main.body.getD i (.Pass ⟨0, 0, 0, 0⟩)
abbrev s0 : Stmt := top 6
abbrev s1 : Stmt := top 7
abbrev s2 : Stmt := top 8
abbrev s3 : Stmt := top 9
abbrev s4 : Stmt := top 10
abbrev s5 : Stmt := top 11
abbrev s6 : Stmt := top 12
abbrev s7 : Stmt := top 13
abbrev s8 : Stmt := top 14
abbrev s9 : Stmt := top 15
abbrev s10 : Stmt := top 16
abbrev s11 : Stmt := top 17
abbrev s12 : Stmt := top 18
abbrev s13 : Stmt := top 20
abbrev s14 : Stmt := top 21
abbrev s15 : Stmt := top 22
abbrev s16 : Stmt := top 23
abbrev s17 : Stmt := top 24
abbrev s18 : Stmt := top 25
abbrev s19 : Stmt := top 26
abbrev s20 : Stmt := top 27
abbrev s21 : Stmt := top 28
abbrev s22 : Stmt := top 29
abbrev s23 : Stmt := top 30
abbrev s24 : Stmt := top 31
abbrev s25 : Stmt := top 32
abbrev s26 : Stmt := top 33
abbrev s27 : Stmt := top 34
abbrev s28 : Stmt := top 35
abbrev s29 : Stmt := top 36
abbrev s30 : Stmt := top 37
abbrev s31 : Stmt := top 38
abbrev s32 : Stmt := top 39
abbrev s33 : Stmt := top 40
abbrev s34 : Stmt := top 41
abbrev s35 : Stmt := top 42
def T : Nat → Option Def
  | 0 => some ⟨3, 3, B.b0⟩
  | 1 => some ⟨2, 2, B.b1⟩
  | 2 => some ⟨2, 5, B.b2⟩
  | 3 => some ⟨3, 6, B.b3⟩
  | 4 => some ⟨1, 3, B.b4⟩
  | 5 => some ⟨1, 1, B.b5⟩
  | 6 => some ⟨2, 2, B.b6⟩
  | 7 => some ⟨2, 2, B.b7⟩
  | 8 => some ⟨2, 6, B.b8⟩
  | 9 => some ⟨3, 7, B.b9⟩
  | 10 => some ⟨3, 3, B.b10⟩
  | 11 => some ⟨2, 8, B.b11⟩
  | 12 => some ⟨1, 4, B.b12⟩
  | 13 => some ⟨1, 4, B.b13⟩
  | 14 => some ⟨2, 6, B.b14⟩
  | 15 => some ⟨2, 5, B.b15⟩
  | 16 => some ⟨2, 2, B.b16⟩
  | 17 => some ⟨2, 5, B.b17⟩
  | 18 => some ⟨3, 6, B.b18⟩
  | 19 => some ⟨2, 5, B.b19⟩
  | 20 => some ⟨2, 5, B.b20⟩
  | 21 => some ⟨3, 6, B.b21⟩
  | 22 => some ⟨2, 11, B.b22⟩
  | 23 => some ⟨3, 13, B.b23⟩
  | 24 => some ⟨2, 5, B.b24⟩
  | 25 => some ⟨2, 8, B.b25⟩
  | 26 => some ⟨3, 7, B.b26⟩
  | 28 => some ⟨2, 2, B.b28⟩
  | 29 => some ⟨1, 6, B.b29⟩
  | 30 => some ⟨1, 6, B.b30⟩
  | 31 => some ⟨1, 6, B.b31⟩
  | 32 => some ⟨1, 2, B.b32⟩
  | 33 => some ⟨1, 3, B.b33⟩
  | 34 => some ⟨1, 10, B.b34⟩
  | 35 => some ⟨1, 13, B.b35⟩
  | _ => none
def g : GI where
  fn := [(("is_within" : Str), 0), (("is_tie" : Str), 1), (("raw_neighbours" : Str), 2), (("reached" : Str), 3), (("is_web" : Str), 4), (("need_web" : Str), 5), (("need_bay" : Str), 6), (("neighbours" : Str), 7), (("distances" : Str), 8), (("raw_path" : Str), 9), (("first_path" : Str), 10), (("sides_of" : Str), 11), (("sides" : Str), 12), (("_law_open" : Str), 13), (("_law_spread" : Str), 14), (("_law_take" : Str), 15), (("_law_one_of" : Str), 16), (("_law_near" : Str), 17), (("_law_reached" : Str), 18), (("_law_any_names" : Str), 19), (("_law_renamed" : Str), 20), (("_law_ways" : Str), 21), (("_law_piece" : Str), 22), (("_law_any_web" : Str), 23), (("_law_bent" : Str), 24), (("_law_far" : Str), 25), (("_law_path" : Str), 26), (("_law_is_bay" : Str), 28), (("_law_is_web" : Str), 29), (("_law_sides" : Str), 30), (("_law_odd_webs" : Str), 31), (("_law_refused_right" : Str), 32), (("_law_bays_right" : Str), 33), (("_law_great_right" : Str), 34), (("law" : Str), 35)]
  io := fun f => match f with
    | 15 => [true, false]
    | 16 => [true, false]
    | 19 => [true, false]
    | 22 => [true, false]
    | 23 => [true, false, false]
    | 24 => [true, false]
    | 34 => [true]
    | _ => []
  cst := [(("MOST_BAYS" : Str), .int 40)]
  exc := [(("BayError" : Str), 0), (("NoWeb" : Str), 1), (("NoBay" : Str), 2)]
  lam := [(("_law_word" : Str), [(1, ("web" : Str)), (2, ("bay" : Str)), (0, ("odd" : Str))], ("none" : Str))]
def sub : Nat → Nat → Bool
  | 0, 0 => true
  | 1, 0 => true
  | 1, 1 => true
  | 2, 0 => true
  | 2, 2 => true
  | _, _ => false
def N0 : List Str := [("thing" : Str), ("least" : Str), ("most" : Str)]
theorem sc0 : FnScope N0 ["thing", "least", "most"] (defScope s0) := ⟨rfl, rfl, rfl, by decide +kernel, rfl, by decide +kernel, by decide +kernel⟩
theorem c0 : compSs 60 ⟨g, N0, defScope s0, fun _ => true, false⟩ (defBody s0) = B.b0 := by kernel_rfl
def N1 : List Str := [("thing" : Str), ("n" : Str)]
theorem sc1 : FnScope N1 ["thing", "n"] (defScope s1) := ⟨rfl, rfl, rfl, by decide +kernel, rfl, by decide +kernel, by decide +kernel⟩
theorem c1 : compSs 60 ⟨g, N1, defScope s1, fun _ => true, false⟩ (defBody s1) = B.b1 := by kernel_rfl
def N2 : List Str := [("ties" : Str), ("bay" : Str), (".0" : Str), ("a" : Str), ("b" : Str)]
theorem sc2 : FnScope N2 ["ties", "bay"] (defScope s2) := ⟨rfl, rfl, rfl, by decide +kernel, rfl, by decide +kernel, by decide +kernel⟩
theorem c2 : compSs 60 ⟨g, N2, defScope s2, fun _ => true, false⟩ (defBody s2) = B.b2 := by kernel_rfl
def N3 : List Str := [("ties" : Str), ("bay" : Str), ("barred" : Str), ("found" : Str), ("waiting" : Str), ("other" : Str)]
theorem sc3 : FnScope N3 ["ties", "bay", "barred"] (defScope s3) := ⟨rfl, rfl, rfl, by decide +kernel, rfl, by decide +kernel, by decide +kernel⟩
theorem c3 : compSs 60 ⟨g, N3, defScope s3, fun _ => true, false⟩ (defBody s3) = B.b3 := by kernel_rfl
def N4 : List Str := [("thing" : Str), (".0" : Str), ("tie" : Str)]
theorem sc4 : FnScope N4 ["thing"] (defScope s4) := ⟨rfl, rfl, rfl, by decide +kernel, rfl, by decide +kernel, by decide +kernel⟩
theorem c4 : compSs 60 ⟨g, N4, defScope s4, fun _ => true, false⟩ (defBody s4) = B.b4 := by kernel_rfl
def N5 : List Str := [("thing" : Str)]
theorem sc5 : FnScope N5 ["thing"] (defScope s5) := ⟨rfl, rfl, rfl, by decide +kernel, rfl, by decide +kernel, by decide +kernel⟩
theorem c5 : compSs 60 ⟨g, N5, defScope s5, fun _ => true, false⟩ (defBody s5) = B.b5 := by kernel_rfl
def N6 : List Str := [("web" : Str), ("thing" : Str)]
theorem sc6 : FnScope N6 ["web", "thing"] (defScope s6) := ⟨rfl, rfl, rfl, by decide +kernel, rfl, by decide +kernel, by decide +kernel⟩
theorem c6 : compSs 60 ⟨g, N6, defScope s6, fun _ => true, false⟩ (defBody s6) = B.b6 := by kernel_rfl
def N7 : List Str := [("web" : Str), ("bay" : Str)]
theorem sc7 : FnScope N7 ["web", "bay"] (defScope s7) := ⟨rfl, rfl, rfl, by decide +kernel, rfl, by decide +kernel, by decide +kernel⟩
theorem c7 : compSs 60 ⟨g, N7, defScope s7, fun _ => true, false⟩ (defBody s7) = B.b7 := by kernel_rfl
def N8 : List Str := [("ties" : Str), ("bay" : Str), ("found" : Str), ("order" : Str), ("done" : Str), ("other" : Str)]
theorem sc8 : FnScope N8 ["ties", "bay"] (defScope s8) := ⟨rfl, rfl, rfl, by decide +kernel, rfl, by decide +kernel, by decide +kernel⟩
theorem c8 : compSs 60 ⟨g, N8, defScope s8, fun _ => true, false⟩ (defBody s8) = B.b8 := by kernel_rfl
def N9 : List Str := [("web" : Str), ("a" : Str), ("b" : Str), ("far" : Str), ("found" : Str), (".0" : Str), ("other" : Str)]
theorem sc9 : FnScope N9 ["web", "a", "b"] (defScope s9) := ⟨rfl, rfl, rfl, by decide +kernel, rfl, by decide +kernel, by decide +kernel⟩
theorem c9 : compSs 60 ⟨g, N9, defScope s9, fun _ => true, false⟩ (defBody s9) = B.b9 := by kernel_rfl
def N10 : List Str := [("web" : Str), ("a" : Str), ("b" : Str)]
theorem sc10 : FnScope N10 ["web", "a", "b"] (defScope s10) := ⟨rfl, rfl, rfl, by decide +kernel, rfl, by decide +kernel, by decide +kernel⟩
theorem c10 : compSs 60 ⟨g, N10, defScope s10, fun _ => true, false⟩ (defBody s10) = B.b10 := by kernel_rfl
def N11 : List Str := [("ties" : Str), ("bay" : Str), ("found" : Str), (".0" : Str), ("one" : Str), ("far" : Str), ("a" : Str), ("b" : Str)]
theorem sc11 : FnScope N11 ["ties", "bay"] (defScope s11) := ⟨rfl, rfl, rfl, by decide +kernel, rfl, by decide +kernel, by decide +kernel⟩
theorem c11 : compSs 60 ⟨g, N11, defScope s11, fun _ => true, false⟩ (defBody s11) = B.b11 := by kernel_rfl
def N12 : List Str := [("web" : Str), ("found" : Str), (".0" : Str), ("bay" : Str)]
theorem sc12 : FnScope N12 ["web"] (defScope s12) := ⟨rfl, rfl, rfl, by decide +kernel, rfl, by decide +kernel, by decide +kernel⟩
theorem c12 : compSs 60 ⟨g, N12, defScope s12, fun _ => true, false⟩ (defBody s12) = B.b12 := by kernel_rfl
def N13 : List Str := [("script" : Str), ("cells" : Str), ("k" : Str), ("cell" : Str)]
theorem sc13 : FnScope N13 ["script"] (defScope s13) := ⟨rfl, rfl, rfl, by decide +kernel, rfl, by decide +kernel, by decide +kernel⟩
theorem c13 : compSs 60 ⟨g, N13, defScope s13, fun _ => true, false⟩ (defBody s13) = B.b13 := by kernel_rfl
def N14 : List Str := [("cell" : Str), ("k" : Str), ("primes" : Str), ("one" : Str), ("two" : Str), ("three" : Str)]
theorem sc14 : FnScope N14 ["cell", "k"] (defScope s14) := ⟨rfl, rfl, rfl, by decide +kernel, rfl, by decide +kernel, by decide +kernel⟩
theorem c14 : compSs 60 ⟨g, N14, defScope s14, fun _ => true, false⟩ (defBody s14) = B.b14 := by kernel_rfl
def N15 : List Str := [("pen" : Str), ("many" : Str), ("k" : Str), ("cell" : Str), ("found" : Str)]
theorem sc15 : FnScope N15 ["pen", "many"] (defScope s15) := ⟨rfl, rfl, rfl, by decide +kernel, rfl, by decide +kernel, by decide +kernel⟩
theorem c15 : compSs 60 ⟨g, N15, defScope s15, fun _ => true, false⟩ (defBody s15) = B.b15 := by kernel_rfl
def N16 : List Str := [("pen" : Str), ("some" : Str)]
theorem sc16 : FnScope N16 ["pen", "some"] (defScope s16) := ⟨rfl, rfl, rfl, by decide +kernel, rfl, by decide +kernel, by decide +kernel⟩
theorem c16 : compSs 60 ⟨g, N16, defScope s16, fun _ => true, false⟩ (defBody s16) = B.b16 := by kernel_rfl
def N17 : List Str := [("ties" : Str), ("bay" : Str), (".0" : Str), ("a" : Str), ("b" : Str)]
theorem sc17 : FnScope N17 ["ties", "bay"] (defScope s17) := ⟨rfl, rfl, rfl, by decide +kernel, rfl, by decide +kernel, by decide +kernel⟩
theorem c17 : compSs 60 ⟨g, N17, defScope s17, fun _ => true, false⟩ (defBody s17) = B.b17 := by kernel_rfl
def N18 : List Str := [("ties" : Str), ("bay" : Str), ("barred" : Str), ("found" : Str), ("waiting" : Str), ("other" : Str)]
theorem sc18 : FnScope N18 ["ties", "bay", "barred"] (defScope s18) := ⟨rfl, rfl, rfl, by decide +kernel, rfl, by decide +kernel, by decide +kernel⟩
theorem c18 : compSs 60 ⟨g, N18, defScope s18, fun _ => true, false⟩ (defBody s18) = B.b18 := by kernel_rfl
def N19 : List Str := [("pen" : Str), ("n" : Str), ("left" : Str), ("found" : Str), ("turn" : Str)]
theorem sc19 : FnScope N19 ["pen", "n"] (defScope s19) := ⟨rfl, rfl, rfl, by decide +kernel, rfl, by decide +kernel, by decide +kernel⟩
theorem c19 : compSs 60 ⟨g, N19, defScope s19, fun _ => true, false⟩ (defBody s19) = B.b19 := by kernel_rfl
def N20 : List Str := [("ties" : Str), ("names" : Str), (".0" : Str), ("a" : Str), ("b" : Str)]
theorem sc20 : FnScope N20 ["ties", "names"] (defScope s20) := ⟨rfl, rfl, rfl, by decide +kernel, rfl, by decide +kernel, by decide +kernel⟩
theorem c20 : compSs 60 ⟨g, N20, defScope s20, fun _ => true, false⟩ (defBody s20) = B.b20 := by kernel_rfl
def N21 : List Str := [("ends" : Str), ("lengths" : Str), ("first" : Str), ("found" : Str), ("many" : Str), ("row" : Str)]
theorem sc21 : FnScope N21 ["ends", "lengths", "first"] (defScope s21) := ⟨rfl, rfl, rfl, by decide +kernel, rfl, by decide +kernel, by decide +kernel⟩
theorem c21 : compSs 60 ⟨g, N21, defScope s21, fun _ => true, false⟩ (defBody s21) = B.b21 := by kernel_rfl
def N22 : List Str := [("pen" : Str), ("size" : Str), ("form" : Str), ("n" : Str), ("some" : Str), ("lengths" : Str), ("ties" : Str), ("a" : Str), (".0" : Str), ("row" : Str), ("b" : Str)]
theorem sc22 : FnScope N22 ["pen", "size"] (defScope s22) := ⟨rfl, rfl, rfl, by decide +kernel, rfl, by decide +kernel, by decide +kernel⟩
theorem c22 : compSs 60 ⟨g, N22, defScope s22, fun _ => true, false⟩ (defBody s22) = B.b22 := by kernel_rfl
def N23 : List Str := [("pen" : Str), ("most" : Str), ("size" : Str), ("ties" : Str), ("n" : Str), ("turn" : Str), ("more" : Str), ("many" : Str), ("at" : Str), ("names" : Str), (".0" : Str), ("a" : Str), ("b" : Str)]
theorem sc23 : FnScope N23 ["pen", "most", "size"] (defScope s23) := ⟨rfl, rfl, rfl, by decide +kernel, rfl, by decide +kernel, by decide +kernel⟩
theorem c23 : compSs 60 ⟨g, N23, defScope s23, fun _ => true, false⟩ (defBody s23) = B.b23 := by kernel_rfl
def N24 : List Str := [("pen" : Str), ("value" : Str), ("some" : Str), ("k" : Str), ("way" : Str)]
theorem sc24 : FnScope N24 ["pen", "value"] (defScope s24) := ⟨rfl, rfl, rfl, by decide +kernel, rfl, by decide +kernel, by decide +kernel⟩
theorem c24 : compSs 60 ⟨g, N24, defScope s24, fun _ => true, false⟩ (defBody s24) = B.b24 := by kernel_rfl
def N25 : List Str := [("web" : Str), ("bay" : Str), ("found" : Str), ("level" : Str), ("many" : Str), ("later" : Str), ("one" : Str), ("other" : Str)]
theorem sc25 : FnScope N25 ["web", "bay"] (defScope s25) := ⟨rfl, rfl, rfl, by decide +kernel, rfl, by decide +kernel, by decide +kernel⟩
theorem c25 : compSs 60 ⟨g, N25, defScope s25, fun _ => true, false⟩ (defBody s25) = B.b25 := by kernel_rfl
def N26 : List Str := [("web" : Str), ("a" : Str), ("b" : Str), ("far" : Str), ("found" : Str), (".0" : Str), ("other" : Str)]
theorem sc26 : FnScope N26 ["web", "a", "b"] (defScope s26) := ⟨rfl, rfl, rfl, by decide +kernel, rfl, by decide +kernel, by decide +kernel⟩
theorem c26 : compSs 60 ⟨g, N26, defScope s26, fun _ => true, false⟩ (defBody s26) = B.b26 := by kernel_rfl
def N27 : List Str := [("call" : Str), ("e" : Str)]
theorem sc27 : FnScope N27 ["call"] (defScope s27) := ⟨rfl, rfl, rfl, by decide +kernel, rfl, by decide +kernel, by decide +kernel⟩
def N28 : List Str := [("thing" : Str), ("n" : Str)]
theorem sc28 : FnScope N28 ["thing", "n"] (defScope s28) := ⟨rfl, rfl, rfl, by decide +kernel, rfl, by decide +kernel, by decide +kernel⟩
theorem c28 : compSs 60 ⟨g, N28, defScope s28, fun _ => true, false⟩ (defBody s28) = B.b28 := by kernel_rfl
def N29 : List Str := [("thing" : Str), ("tie" : Str), (".0" : Str), ("bay" : Str), ("one" : Str), ("other" : Str)]
theorem sc29 : FnScope N29 ["thing"] (defScope s29) := ⟨rfl, rfl, rfl, by decide +kernel, rfl, by decide +kernel, by decide +kernel⟩
theorem c29 : compSs 60 ⟨g, N29, defScope s29, fun _ => true, false⟩ (defBody s29) = B.b29 := by kernel_rfl
def N30 : List Str := [("web" : Str), ("far" : Str), (".0" : Str), ("a" : Str), ("b" : Str), ("bay" : Str)]
theorem sc30 : FnScope N30 ["web"] (defScope s30) := ⟨rfl, rfl, rfl, by decide +kernel, rfl, by decide +kernel, by decide +kernel⟩
theorem c30 : compSs 60 ⟨g, N30, defScope s30, fun _ => true, false⟩ (defBody s30) = B.b30 := by kernel_rfl
def N31 : List Str := [("web" : Str), ("n" : Str), ("ties" : Str), ("odd" : Str), (".0" : Str), ("k" : Str)]
theorem sc31 : FnScope N31 ["web"] (defScope s31) := ⟨rfl, rfl, rfl, by decide +kernel, rfl, by decide +kernel, by decide +kernel⟩
theorem c31 : compSs 60 ⟨g, N31, defScope s31, fun _ => true, false⟩ (defBody s31) = B.b31 := by kernel_rfl
def N32 : List Str := [("odd" : Str), ("found" : Str)]
theorem sc32 : FnScope N32 ["odd"] (defScope s32) := ⟨rfl, rfl, rfl, by decide +kernel, rfl, by decide +kernel, by decide +kernel⟩
theorem c32 : compSs 60 ⟨g, N32, defScope s32, fun _ => true, true⟩ (defBody s32) = B.b32 := by kernel_rfl
def N33 : List Str := [("web" : Str), ("found" : Str), ("bay" : Str)]
theorem sc33 : FnScope N33 ["web"] (defScope s33) := ⟨rfl, rfl, rfl, by decide +kernel, rfl, by decide +kernel, by decide +kernel⟩
theorem c33 : compSs 60 ⟨g, N33, defScope s33, fun _ => true, true⟩ (defBody s33) = B.b33 := by kernel_rfl
def N34 : List Str := [("pen" : Str), ("n" : Str), ("ties" : Str), ("turn" : Str), ("a" : Str), ("web" : Str), ("b" : Str), ("told" : Str), (".0" : Str), ("k" : Str)]
theorem sc34 : FnScope N34 ["pen"] (defScope s34) := ⟨rfl, rfl, rfl, by decide +kernel, rfl, by decide +kernel, by decide +kernel⟩
theorem c34 : compSs 60 ⟨g, N34, defScope s34, fun _ => true, false⟩ (defBody s34) = B.b34 := by kernel_rfl
def N35 : List Str := [("script" : Str), ("pen" : Str), ("turn" : Str), ("web" : Str), ("text" : Str), ("bay" : Str), ("told" : Str), ("other" : Str), ("thing" : Str), ("was" : Str), ("is_due" : Str), (".0" : Str), ("again" : Str)]
theorem sc35 : FnScope N35 ["script"] (defScope s35) := ⟨rfl, rfl, rfl, by decide +kernel, rfl, by decide +kernel, by decide +kernel⟩
theorem c35 : compSs 60 ⟨g, N35, defScope s35, fun _ => true, false⟩ (defBody s35) = B.b35 := by kernel_rfl
def ca (Cs : List Addr) (i : Nat) : Addr := Cs.getD i 0
set_option maxHeartbeats 0 in
theorem all_mk {l : PySem.W.OpenLaw} {w : World} {K : PySem.W.Frag} {h : Heap} {mg : Str → Option Value} {fa : Addr} (X : K.In h) (G : h.Ns mainGlobals mg) (hfa : mg "law" = some (.ref fa))
    {f0 : Addr} {od0 an0 : Option Addr} {sl0 : Array (Option Value)} {oc0 kV0 dc0 pm0 ct0 : Value} {cd0 : Value}
    {f1 : Addr} {od1 an1 : Option Addr} {sl1 : Array (Option Value)} {oc1 kV1 dc1 pm1 ct1 : Value} {cd1 : Value}
    {f2 : Addr} {od2 an2 : Option Addr} {sl2 : Array (Option Value)} {oc2 kV2 dc2 pm2 ct2 : Value} {cd2 : Value}
    {f3 : Addr} {od3 an3 : Option Addr} {sl3 : Array (Option Value)} {oc3 kV3 dc3 pm3 ct3 : Value} {cd3 : Value}
    {f4 : Addr} {od4 an4 : Option Addr} {sl4 : Array (Option Value)} {oc4 kV4 dc4 pm4 ct4 : Value} {cd4 : Value}
    {f5 : Addr} {od5 an5 : Option Addr} {sl5 : Array (Option Value)} {oc5 kV5 dc5 pm5 ct5 : Value} {cd5 : Value}
    {f6 : Addr} {od6 an6 : Option Addr} {sl6 : Array (Option Value)} {oc6 kV6 dc6 pm6 ct6 : Value} {cd6 : Value}
    {f7 : Addr} {od7 an7 : Option Addr} {sl7 : Array (Option Value)} {oc7 kV7 dc7 pm7 ct7 : Value} {cd7 : Value}
    {f8 : Addr} {od8 an8 : Option Addr} {sl8 : Array (Option Value)} {oc8 kV8 dc8 pm8 ct8 : Value} {cd8 : Value}
    {f9 : Addr} {od9 an9 : Option Addr} {sl9 : Array (Option Value)} {oc9 kV9 dc9 pm9 ct9 : Value} {cd9 : Value}
    {f10 : Addr} {od10 an10 : Option Addr} {sl10 : Array (Option Value)} {oc10 kV10 dc10 pm10 ct10 : Value} {cd10 : Value}
    {f11 : Addr} {od11 an11 : Option Addr} {sl11 : Array (Option Value)} {oc11 kV11 dc11 pm11 ct11 : Value} {cd11 : Value}
    {f12 : Addr} {od12 an12 : Option Addr} {sl12 : Array (Option Value)} {oc12 kV12 dc12 pm12 ct12 : Value} {cd12 : Value}
    {f13 : Addr} {od13 an13 : Option Addr} {sl13 : Array (Option Value)} {oc13 kV13 dc13 pm13 ct13 : Value} {cd13 : Value}
    {f14 : Addr} {od14 an14 : Option Addr} {sl14 : Array (Option Value)} {oc14 kV14 dc14 pm14 ct14 : Value} {cd14 : Value}
    {f15 : Addr} {od15 an15 : Option Addr} {sl15 : Array (Option Value)} {oc15 kV15 dc15 pm15 ct15 : Value} {cd15 : Value}
    {f16 : Addr} {od16 an16 : Option Addr} {sl16 : Array (Option Value)} {oc16 kV16 dc16 pm16 ct16 : Value} {cd16 : Value}
    {f17 : Addr} {od17 an17 : Option Addr} {sl17 : Array (Option Value)} {oc17 kV17 dc17 pm17 ct17 : Value} {cd17 : Value}
    {f18 : Addr} {od18 an18 : Option Addr} {sl18 : Array (Option Value)} {oc18 kV18 dc18 pm18 ct18 : Value} {cd18 : Value}
    {f19 : Addr} {od19 an19 : Option Addr} {sl19 : Array (Option Value)} {oc19 kV19 dc19 pm19 ct19 : Value} {cd19 : Value}
    {f20 : Addr} {od20 an20 : Option Addr} {sl20 : Array (Option Value)} {oc20 kV20 dc20 pm20 ct20 : Value} {cd20 : Value}
    {f21 : Addr} {od21 an21 : Option Addr} {sl21 : Array (Option Value)} {oc21 kV21 dc21 pm21 ct21 : Value} {cd21 : Value}
    {f22 : Addr} {od22 an22 : Option Addr} {sl22 : Array (Option Value)} {oc22 kV22 dc22 pm22 ct22 : Value} {cd22 : Value}
    {f23 : Addr} {od23 an23 : Option Addr} {sl23 : Array (Option Value)} {oc23 kV23 dc23 pm23 ct23 : Value} {cd23 : Value}
    {f24 : Addr} {od24 an24 : Option Addr} {sl24 : Array (Option Value)} {oc24 kV24 dc24 pm24 ct24 : Value} {cd24 : Value}
    {f25 : Addr} {od25 an25 : Option Addr} {sl25 : Array (Option Value)} {oc25 kV25 dc25 pm25 ct25 : Value} {cd25 : Value}
    {f26 : Addr} {od26 an26 : Option Addr} {sl26 : Array (Option Value)} {oc26 kV26 dc26 pm26 ct26 : Value} {cd26 : Value}
    {f27 : Addr} {od27 an27 : Option Addr} {sl27 : Array (Option Value)} {oc27 kV27 dc27 pm27 ct27 : Value} {cd27 : Value}
    {f28 : Addr} {od28 an28 : Option Addr} {sl28 : Array (Option Value)} {oc28 kV28 dc28 pm28 ct28 : Value} {cd28 : Value}
    {f29 : Addr} {od29 an29 : Option Addr} {sl29 : Array (Option Value)} {oc29 kV29 dc29 pm29 ct29 : Value} {cd29 : Value}
    {f30 : Addr} {od30 an30 : Option Addr} {sl30 : Array (Option Value)} {oc30 kV30 dc30 pm30 ct30 : Value} {cd30 : Value}
    {f31 : Addr} {od31 an31 : Option Addr} {sl31 : Array (Option Value)} {oc31 kV31 dc31 pm31 ct31 : Value} {cd31 : Value}
    {f32 : Addr} {od32 an32 : Option Addr} {sl32 : Array (Option Value)} {oc32 kV32 dc32 pm32 ct32 : Value}
    {mc32 mP32 : Addr} {mod32 : Option Addr} {mv32 : Array Value} {msl32 : Array (Option Value)}
    {f33 : Addr} {od33 an33 : Option Addr} {sl33 : Array (Option Value)} {oc33 kV33 dc33 pm33 ct33 : Value}
    {mc33 mP33 : Addr} {mod33 : Option Addr} {mv33 : Array Value} {msl33 : Array (Option Value)}
    {f34 : Addr} {od34 an34 : Option Addr} {sl34 : Array (Option Value)} {oc34 kV34 dc34 pm34 ct34 : Value} {cd34 : Value}
    {f35 : Addr} {od35 an35 : Option Addr} {sl35 : Array (Option Value)} {oc35 kV35 dc35 pm35 ct35 : Value} {cd35 : Value}
    {C0 : Addr}
    {C1 : Addr}
    {C2 : Addr}
    {ctk0 : Tok}
    (a0 : PySem.W.nsIn K mainGlobals "is_within" = some (some (.ref f0)))
    (l0 : K.lookup f0 = some ⟨oc0, od0, .func (PySem.W.fnOf "is_within" "is_within" (defArgs s0) (defBody s0) (defScope s0) .none kV0 dc0 pm0 an0 cd0 ct0), sl0⟩)
    (cc0 : PySem.W.codeIn K cd0 "is_within" = true)
    (k0 : PySem.W.keepIn K (.ref f0) = true)
    (a1 : PySem.W.nsIn K mainGlobals "is_tie" = some (some (.ref f1)))
    (l1 : K.lookup f1 = some ⟨oc1, od1, .func (PySem.W.fnOf "is_tie" "is_tie" (defArgs s1) (defBody s1) (defScope s1) .none kV1 dc1 pm1 an1 cd1 ct1), sl1⟩)
    (cc1 : PySem.W.codeIn K cd1 "is_tie" = true)
    (k1 : PySem.W.keepIn K (.ref f1) = true)
    (a2 : PySem.W.nsIn K mainGlobals "raw_neighbours" = some (some (.ref f2)))
    (l2 : K.lookup f2 = some ⟨oc2, od2, .func (PySem.W.fnOf "raw_neighbours" "raw_neighbours" (defArgs s2) (defBody s2) (defScope s2) .none kV2 dc2 pm2 an2 cd2 ct2), sl2⟩)
    (cc2 : PySem.W.codeIn K cd2 "raw_neighbours" = true)
    (k2 : PySem.W.keepIn K (.ref f2) = true)
    (a3 : PySem.W.nsIn K mainGlobals "reached" = some (some (.ref f3)))
    (l3 : K.lookup f3 = some ⟨oc3, od3, .func (PySem.W.fnOf "reached" "reached" (defArgs s3) (defBody s3) (defScope s3) .none kV3 dc3 pm3 an3 cd3 ct3), sl3⟩)
    (cc3 : PySem.W.codeIn K cd3 "reached" = true)
    (k3 : PySem.W.keepIn K (.ref f3) = true)
    (a4 : PySem.W.nsIn K mainGlobals "is_web" = some (some (.ref f4)))
    (l4 : K.lookup f4 = some ⟨oc4, od4, .func (PySem.W.fnOf "is_web" "is_web" (defArgs s4) (defBody s4) (defScope s4) .none kV4 dc4 pm4 an4 cd4 ct4), sl4⟩)
    (cc4 : PySem.W.codeIn K cd4 "is_web" = true)
    (k4 : PySem.W.keepIn K (.ref f4) = true)
    (a5 : PySem.W.nsIn K mainGlobals "need_web" = some (some (.ref f5)))
    (l5 : K.lookup f5 = some ⟨oc5, od5, .func (PySem.W.fnOf "need_web" "need_web" (defArgs s5) (defBody s5) (defScope s5) .none kV5 dc5 pm5 an5 cd5 ct5), sl5⟩)
    (cc5 : PySem.W.codeIn K cd5 "need_web" = true)
    (k5 : PySem.W.keepIn K (.ref f5) = true)
    (a6 : PySem.W.nsIn K mainGlobals "need_bay" = some (some (.ref f6)))
    (l6 : K.lookup f6 = some ⟨oc6, od6, .func (PySem.W.fnOf "need_bay" "need_bay" (defArgs s6) (defBody s6) (defScope s6) .none kV6 dc6 pm6 an6 cd6 ct6), sl6⟩)
    (cc6 : PySem.W.codeIn K cd6 "need_bay" = true)
    (k6 : PySem.W.keepIn K (.ref f6) = true)
    (a7 : PySem.W.nsIn K mainGlobals "neighbours" = some (some (.ref f7)))
    (l7 : K.lookup f7 = some ⟨oc7, od7, .func (PySem.W.fnOf "neighbours" "neighbours" (defArgs s7) (defBody s7) (defScope s7) .none kV7 dc7 pm7 an7 cd7 ct7), sl7⟩)
    (cc7 : PySem.W.codeIn K cd7 "neighbours" = true)
    (k7 : PySem.W.keepIn K (.ref f7) = true)
    (a8 : PySem.W.nsIn K mainGlobals "distances" = some (some (.ref f8)))
    (l8 : K.lookup f8 = some ⟨oc8, od8, .func (PySem.W.fnOf "distances" "distances" (defArgs s8) (defBody s8) (defScope s8) .none kV8 dc8 pm8 an8 cd8 ct8), sl8⟩)
    (cc8 : PySem.W.codeIn K cd8 "distances" = true)
    (k8 : PySem.W.keepIn K (.ref f8) = true)
    (a9 : PySem.W.nsIn K mainGlobals "raw_path" = some (some (.ref f9)))
    (l9 : K.lookup f9 = some ⟨oc9, od9, .func (PySem.W.fnOf "raw_path" "raw_path" (defArgs s9) (defBody s9) (defScope s9) .none kV9 dc9 pm9 an9 cd9 ct9), sl9⟩)
    (cc9 : PySem.W.codeIn K cd9 "raw_path" = true)
    (k9 : PySem.W.keepIn K (.ref f9) = true)
    (a10 : PySem.W.nsIn K mainGlobals "first_path" = some (some (.ref f10)))
    (l10 : K.lookup f10 = some ⟨oc10, od10, .func (PySem.W.fnOf "first_path" "first_path" (defArgs s10) (defBody s10) (defScope s10) .none kV10 dc10 pm10 an10 cd10 ct10), sl10⟩)
    (cc10 : PySem.W.codeIn K cd10 "first_path" = true)
    (k10 : PySem.W.keepIn K (.ref f10) = true)
    (a11 : PySem.W.nsIn K mainGlobals "sides_of" = some (some (.ref f11)))
    (l11 : K.lookup f11 = some ⟨oc11, od11, .func (PySem.W.fnOf "sides_of" "sides_of" (defArgs s11) (defBody s11) (defScope s11) .none kV11 dc11 pm11 an11 cd11 ct11), sl11⟩)
    (cc11 : PySem.W.codeIn K cd11 "sides_of" = true)
    (k11 : PySem.W.keepIn K (.ref f11) = true)
    (a12 : PySem.W.nsIn K mainGlobals "sides" = some (some (.ref f12)))
    (l12 : K.lookup f12 = some ⟨oc12, od12, .func (PySem.W.fnOf "sides" "sides" (defArgs s12) (defBody s12) (defScope s12) .none kV12 dc12 pm12 an12 cd12 ct12), sl12⟩)
    (cc12 : PySem.W.codeIn K cd12 "sides" = true)
    (k12 : PySem.W.keepIn K (.ref f12) = true)
    (a13 : PySem.W.nsIn K mainGlobals "_law_open" = some (some (.ref f13)))
    (l13 : K.lookup f13 = some ⟨oc13, od13, .func (PySem.W.fnOf "_law_open" "_law_open" (defArgs s13) (defBody s13) (defScope s13) .none kV13 dc13 pm13 an13 cd13 ct13), sl13⟩)
    (cc13 : PySem.W.codeIn K cd13 "_law_open" = true)
    (k13 : PySem.W.keepIn K (.ref f13) = true)
    (a14 : PySem.W.nsIn K mainGlobals "_law_spread" = some (some (.ref f14)))
    (l14 : K.lookup f14 = some ⟨oc14, od14, .func (PySem.W.fnOf "_law_spread" "_law_spread" (defArgs s14) (defBody s14) (defScope s14) .none kV14 dc14 pm14 an14 cd14 ct14), sl14⟩)
    (cc14 : PySem.W.codeIn K cd14 "_law_spread" = true)
    (k14 : PySem.W.keepIn K (.ref f14) = true)
    (a15 : PySem.W.nsIn K mainGlobals "_law_take" = some (some (.ref f15)))
    (l15 : K.lookup f15 = some ⟨oc15, od15, .func (PySem.W.fnOf "_law_take" "_law_take" (defArgs s15) (defBody s15) (defScope s15) .none kV15 dc15 pm15 an15 cd15 ct15), sl15⟩)
    (cc15 : PySem.W.codeIn K cd15 "_law_take" = true)
    (k15 : PySem.W.keepIn K (.ref f15) = true)
    (a16 : PySem.W.nsIn K mainGlobals "_law_one_of" = some (some (.ref f16)))
    (l16 : K.lookup f16 = some ⟨oc16, od16, .func (PySem.W.fnOf "_law_one_of" "_law_one_of" (defArgs s16) (defBody s16) (defScope s16) .none kV16 dc16 pm16 an16 cd16 ct16), sl16⟩)
    (cc16 : PySem.W.codeIn K cd16 "_law_one_of" = true)
    (k16 : PySem.W.keepIn K (.ref f16) = true)
    (a17 : PySem.W.nsIn K mainGlobals "_law_near" = some (some (.ref f17)))
    (l17 : K.lookup f17 = some ⟨oc17, od17, .func (PySem.W.fnOf "_law_near" "_law_near" (defArgs s17) (defBody s17) (defScope s17) .none kV17 dc17 pm17 an17 cd17 ct17), sl17⟩)
    (cc17 : PySem.W.codeIn K cd17 "_law_near" = true)
    (k17 : PySem.W.keepIn K (.ref f17) = true)
    (a18 : PySem.W.nsIn K mainGlobals "_law_reached" = some (some (.ref f18)))
    (l18 : K.lookup f18 = some ⟨oc18, od18, .func (PySem.W.fnOf "_law_reached" "_law_reached" (defArgs s18) (defBody s18) (defScope s18) .none kV18 dc18 pm18 an18 cd18 ct18), sl18⟩)
    (cc18 : PySem.W.codeIn K cd18 "_law_reached" = true)
    (k18 : PySem.W.keepIn K (.ref f18) = true)
    (a19 : PySem.W.nsIn K mainGlobals "_law_any_names" = some (some (.ref f19)))
    (l19 : K.lookup f19 = some ⟨oc19, od19, .func (PySem.W.fnOf "_law_any_names" "_law_any_names" (defArgs s19) (defBody s19) (defScope s19) .none kV19 dc19 pm19 an19 cd19 ct19), sl19⟩)
    (cc19 : PySem.W.codeIn K cd19 "_law_any_names" = true)
    (k19 : PySem.W.keepIn K (.ref f19) = true)
    (a20 : PySem.W.nsIn K mainGlobals "_law_renamed" = some (some (.ref f20)))
    (l20 : K.lookup f20 = some ⟨oc20, od20, .func (PySem.W.fnOf "_law_renamed" "_law_renamed" (defArgs s20) (defBody s20) (defScope s20) .none kV20 dc20 pm20 an20 cd20 ct20), sl20⟩)
    (cc20 : PySem.W.codeIn K cd20 "_law_renamed" = true)
    (k20 : PySem.W.keepIn K (.ref f20) = true)
    (a21 : PySem.W.nsIn K mainGlobals "_law_ways" = some (some (.ref f21)))
    (l21 : K.lookup f21 = some ⟨oc21, od21, .func (PySem.W.fnOf "_law_ways" "_law_ways" (defArgs s21) (defBody s21) (defScope s21) .none kV21 dc21 pm21 an21 cd21 ct21), sl21⟩)
    (cc21 : PySem.W.codeIn K cd21 "_law_ways" = true)
    (k21 : PySem.W.keepIn K (.ref f21) = true)
    (a22 : PySem.W.nsIn K mainGlobals "_law_piece" = some (some (.ref f22)))
    (l22 : K.lookup f22 = some ⟨oc22, od22, .func (PySem.W.fnOf "_law_piece" "_law_piece" (defArgs s22) (defBody s22) (defScope s22) .none kV22 dc22 pm22 an22 cd22 ct22), sl22⟩)
    (cc22 : PySem.W.codeIn K cd22 "_law_piece" = true)
    (k22 : PySem.W.keepIn K (.ref f22) = true)
    (a23 : PySem.W.nsIn K mainGlobals "_law_any_web" = some (some (.ref f23)))
    (l23 : K.lookup f23 = some ⟨oc23, od23, .func (PySem.W.fnOf "_law_any_web" "_law_any_web" (defArgs s23) (defBody s23) (defScope s23) .none kV23 dc23 pm23 an23 cd23 ct23), sl23⟩)
    (cc23 : PySem.W.codeIn K cd23 "_law_any_web" = true)
    (k23 : PySem.W.keepIn K (.ref f23) = true)
    (a24 : PySem.W.nsIn K mainGlobals "_law_bent" = some (some (.ref f24)))
    (l24 : K.lookup f24 = some ⟨oc24, od24, .func (PySem.W.fnOf "_law_bent" "_law_bent" (defArgs s24) (defBody s24) (defScope s24) .none kV24 dc24 pm24 an24 cd24 ct24), sl24⟩)
    (cc24 : PySem.W.codeIn K cd24 "_law_bent" = true)
    (k24 : PySem.W.keepIn K (.ref f24) = true)
    (a25 : PySem.W.nsIn K mainGlobals "_law_far" = some (some (.ref f25)))
    (l25 : K.lookup f25 = some ⟨oc25, od25, .func (PySem.W.fnOf "_law_far" "_law_far" (defArgs s25) (defBody s25) (defScope s25) .none kV25 dc25 pm25 an25 cd25 ct25), sl25⟩)
    (cc25 : PySem.W.codeIn K cd25 "_law_far" = true)
    (k25 : PySem.W.keepIn K (.ref f25) = true)
    (a26 : PySem.W.nsIn K mainGlobals "_law_path" = some (some (.ref f26)))
    (l26 : K.lookup f26 = some ⟨oc26, od26, .func (PySem.W.fnOf "_law_path" "_law_path" (defArgs s26) (defBody s26) (defScope s26) .none kV26 dc26 pm26 an26 cd26 ct26), sl26⟩)
    (cc26 : PySem.W.codeIn K cd26 "_law_path" = true)
    (k26 : PySem.W.keepIn K (.ref f26) = true)
    (a27 : PySem.W.nsIn K mainGlobals "_law_word" = some (some (.ref f27)))
    (l27 : K.lookup f27 = some ⟨oc27, od27, .func (PySem.W.fnOf "_law_word" "_law_word" (defArgs s27) (defBody s27) (defScope s27) .none kV27 dc27 pm27 an27 cd27 ct27), sl27⟩)
    (cc27 : PySem.W.codeIn K cd27 "_law_word" = true)
    (k27 : PySem.W.keepIn K (.ref f27) = true)
    (a28 : PySem.W.nsIn K mainGlobals "_law_is_bay" = some (some (.ref f28)))
    (l28 : K.lookup f28 = some ⟨oc28, od28, .func (PySem.W.fnOf "_law_is_bay" "_law_is_bay" (defArgs s28) (defBody s28) (defScope s28) .none kV28 dc28 pm28 an28 cd28 ct28), sl28⟩)
    (cc28 : PySem.W.codeIn K cd28 "_law_is_bay" = true)
    (k28 : PySem.W.keepIn K (.ref f28) = true)
    (a29 : PySem.W.nsIn K mainGlobals "_law_is_web" = some (some (.ref f29)))
    (l29 : K.lookup f29 = some ⟨oc29, od29, .func (PySem.W.fnOf "_law_is_web" "_law_is_web" (defArgs s29) (defBody s29) (defScope s29) .none kV29 dc29 pm29 an29 cd29 ct29), sl29⟩)
    (cc29 : PySem.W.codeIn K cd29 "_law_is_web" = true)
    (k29 : PySem.W.keepIn K (.ref f29) = true)
    (a30 : PySem.W.nsIn K mainGlobals "_law_sides" = some (some (.ref f30)))
    (l30 : K.lookup f30 = some ⟨oc30, od30, .func (PySem.W.fnOf "_law_sides" "_law_sides" (defArgs s30) (defBody s30) (defScope s30) .none kV30 dc30 pm30 an30 cd30 ct30), sl30⟩)
    (cc30 : PySem.W.codeIn K cd30 "_law_sides" = true)
    (k30 : PySem.W.keepIn K (.ref f30) = true)
    (a31 : PySem.W.nsIn K mainGlobals "_law_odd_webs" = some (some (.ref f31)))
    (l31 : K.lookup f31 = some ⟨oc31, od31, .func (PySem.W.fnOf "_law_odd_webs" "_law_odd_webs" (defArgs s31) (defBody s31) (defScope s31) .none kV31 dc31 pm31 an31 cd31 ct31), sl31⟩)
    (cc31 : PySem.W.codeIn K cd31 "_law_odd_webs" = true)
    (k31 : PySem.W.keepIn K (.ref f31) = true)
    (a32 : PySem.W.nsIn K mainGlobals "_law_refused_right" = some (some (.ref f32)))
    (l32 : K.lookup f32 = some ⟨oc32, od32, .func (PySem.W.fnOf "_law_refused_right" "_law_refused_right" (defArgs s32) (defBody s32) (defScope s32) .none kV32 dc32 pm32 an32 (.ref mc32) ct32), sl32⟩)
    (cc32 : PySem.W.codeIn K (.ref mc32) "_law_refused_right" = true)
    (k32 : PySem.W.keepIn K (.ref f32) = true)
    (mo32 : K.lookup mc32 = some ⟨.type "code", mod32, .fields mv32, msl32⟩)
    (mv32_ : mv32[11]? = some (.ref mP32))
    (mh32 : PySem.W.codeHdIn K mc32 mP32 = true)
    (mn32 : K.lookup mP32 = none)
    (mt32 : h.get? mP32 = some { cls := .none, data := .fields #[] })
    (a33 : PySem.W.nsIn K mainGlobals "_law_bays_right" = some (some (.ref f33)))
    (l33 : K.lookup f33 = some ⟨oc33, od33, .func (PySem.W.fnOf "_law_bays_right" "_law_bays_right" (defArgs s33) (defBody s33) (defScope s33) .none kV33 dc33 pm33 an33 (.ref mc33) ct33), sl33⟩)
    (cc33 : PySem.W.codeIn K (.ref mc33) "_law_bays_right" = true)
    (k33 : PySem.W.keepIn K (.ref f33) = true)
    (mo33 : K.lookup mc33 = some ⟨.type "code", mod33, .fields mv33, msl33⟩)
    (mv33_ : mv33[11]? = some (.ref mP33))
    (mh33 : PySem.W.codeHdIn K mc33 mP33 = true)
    (mn33 : K.lookup mP33 = none)
    (mt33 : h.get? mP33 = some { cls := .none, data := .fields #[] })
    (a34 : PySem.W.nsIn K mainGlobals "_law_great_right" = some (some (.ref f34)))
    (l34 : K.lookup f34 = some ⟨oc34, od34, .func (PySem.W.fnOf "_law_great_right" "_law_great_right" (defArgs s34) (defBody s34) (defScope s34) .none kV34 dc34 pm34 an34 cd34 ct34), sl34⟩)
    (cc34 : PySem.W.codeIn K cd34 "_law_great_right" = true)
    (k34 : PySem.W.keepIn K (.ref f34) = true)
    (a35 : PySem.W.nsIn K mainGlobals "law" = some (some (.ref f35)))
    (l35 : K.lookup f35 = some ⟨oc35, od35, .func (PySem.W.fnOf "law" "law" (defArgs s35) (defBody s35) (defScope s35) .none kV35 dc35 pm35 an35 cd35 ct35), sl35⟩)
    (cc35 : PySem.W.codeIn K cd35 "law" = true)
    (k35 : PySem.W.keepIn K (.ref f35) = true)
    (md33_32 : mP33 ≠ mP32)
    (ea0 : PySem.W.nsIn K mainGlobals "BayError" = some (some (.ref C0)))
    (ex0 : PySem.W.excIn K C0 [.type "ValueError", .type "Exception", .type "BaseException", .type "object"] "ValueError.__new__" = true)
    (ek0 : PySem.W.keepIn K (.ref C0) = true)
    (eb0 : PySem.W.subIn K (.ref C0) (.type "BaseException") = some true)
    (et0 : PySem.W.typeIn K (.ref C0) = some (.type "type"))
    (ea1 : PySem.W.nsIn K mainGlobals "NoWeb" = some (some (.ref C1)))
    (ex1 : PySem.W.excIn K C1 [.type "ValueError", .type "Exception", .type "BaseException", .type "object"] "ValueError.__new__" = true)
    (ek1 : PySem.W.keepIn K (.ref C1) = true)
    (eb1 : PySem.W.subIn K (.ref C1) (.type "BaseException") = some true)
    (et1 : PySem.W.typeIn K (.ref C1) = some (.type "type"))
    (ea2 : PySem.W.nsIn K mainGlobals "NoBay" = some (some (.ref C2)))
    (ex2 : PySem.W.excIn K C2 [.type "ValueError", .type "Exception", .type "BaseException", .type "object"] "ValueError.__new__" = true)
    (ek2 : PySem.W.keepIn K (.ref C2) = true)
    (eb2 : PySem.W.subIn K (.ref C2) (.type "BaseException") = some true)
    (et2 : PySem.W.typeIn K (.ref C2) = some (.type "type"))
    (em0_0 : PySem.W.exmOne K (.ref C0) (.ref C0) = some true)
    (em0_1 : PySem.W.exmOne K (.ref C0) (.ref C1) = some false)
    (em0_2 : PySem.W.exmOne K (.ref C0) (.ref C2) = some false)
    (em1_0 : PySem.W.exmOne K (.ref C1) (.ref C0) = some true)
    (em1_1 : PySem.W.exmOne K (.ref C1) (.ref C1) = some true)
    (em1_2 : PySem.W.exmOne K (.ref C1) (.ref C2) = some false)
    (em2_0 : PySem.W.exmOne K (.ref C2) (.ref C0) = some true)
    (em2_1 : PySem.W.exmOne K (.ref C2) (.ref C1) = some false)
    (em2_2 : PySem.W.exmOne K (.ref C2) (.ref C2) = some true)
    (cv0 : PySem.W.nsIn K mainGlobals "MOST_BAYS" = some (some (.int 40 ctk0)))
    (z0 : PySem.W.nsIn K mainGlobals "len" = some none)
    (z1 : PySem.W.nsIn K mainGlobals "int" = some none)
    (z2 : PySem.W.nsIn K mainGlobals "str" = some none)
    (z3 : PySem.W.nsIn K mainGlobals "repr" = some none)
    (z4 : PySem.W.nsIn K mainGlobals "tuple" = some none)
    (z5 : PySem.W.nsIn K mainGlobals "min" = some none)
    (z6 : PySem.W.nsIn K mainGlobals "max" = some none)
    (z7 : PySem.W.nsIn K mainGlobals "sum" = some none)
    (z8 : PySem.W.nsIn K mainGlobals "all" = some none)
    (z9 : PySem.W.nsIn K mainGlobals "any" = some none)
    (z10 : PySem.W.nsIn K mainGlobals "list" = some none)
    (z11 : PySem.W.nsIn K mainGlobals "sorted" = some none)
    (z12 : PySem.W.nsIn K mainGlobals "range" = some none)
    (z13 : PySem.W.nsIn K mainGlobals "zip" = some none)
    (z14 : PySem.W.nsIn K mainGlobals "set" = some none)
    (z15 : PySem.W.nsIn K mainGlobals "enumerate" = some none)
    (z16 : PySem.W.nsIn K mainGlobals "isinstance" = some none)
    (z17 : PySem.W.nsIn K mainGlobals "bool" = some none)
    (pure : ∀ ns : List Int, ns.length ≤ 63 → (∀ z ∈ ns, Builtin.Int.intBits z ≤ 1048576) → ∃ ss', callD T sub 1000 20 35 [.shr false (.scr ns)] = .ok false (.bl true) ss') : LawAtG l w K (lvl 20) 63 "script" mg fa h := by
  cases hfa.symm.trans (PySem.W.mg_of X G a35)
  obtain ⟨L, hL⟩ : ∃ L : Lk, L = ⟨K, [(mP32, (("_law_refused_right" : Str) ++ ".<locals>." ++ "<lambda>")), (mP33, (("_law_bays_right" : Str) ++ ".<locals>." ++ "<lambda>"))], ca [C0, C1, C2], fun _ => []⟩ := ⟨_, rfl⟩
  have eK : L.K = K := by rw [hL]
  have eT : L.T = [(mP32, (("_law_refused_right" : Str) ++ ".<locals>." ++ "<lambda>")), (mP33, (("_law_bays_right" : Str) ++ ".<locals>." ++ "<lambda>"))] := by rw [hL]
  have eC : L.ca = ca [C0, C1, C2] := by rw [hL]
  have Z : ∀ C : Cal, Extra C sub L := fun C => extra fun c h hc hh => by
    rw [eK, eC]
    match c, h, hc, hh with
    | 0, 0, _, _ => exact em0_0
    | 0, 1, _, _ => exact em0_1
    | 0, 2, _, _ => exact em0_2
    | 1, 0, _, _ => exact em1_0
    | 1, 1, _, _ => exact em1_1
    | 1, 2, _, _ => exact em1_2
    | 2, 0, _, _ => exact em2_0
    | 2, 1, _, _ => exact em2_1
    | 2, 2, _, _ => exact em2_2
    | n + 3, _, hc, _ => cases hc
    | _, n + 3, _, hh => cases hh
  have text : ∀ base : Heap, (∀ p ∈ ([(mc32, mP32), (mc33, mP33)] : List (Addr × Addr)), LamX.TabB base mg p.1 p.2) → TextOk L base mg g T := fun base tb => by
    have tb32 : MkTab L.T base mg (.ref mc32) (("_law_refused_right" : Str) ++ ".<locals>.") := ⟨mc32, mP32, rfl, tb (mc32, mP32) (by simp), by rw [eT]; simp, by
      rw [eT]
      intro z hz e
      simp only [List.mem_cons, List.not_mem_nil, or_false] at hz
      rcases hz with rfl | rfl
      · rfl
      · exact absurd e md33_32
      ⟩
    have tb33 : MkTab L.T base mg (.ref mc33) (("_law_bays_right" : Str) ++ ".<locals>.") := ⟨mc33, mP33, rfl, tb (mc33, mP33) (by simp), by rw [eT]; simp, by
      rw [eT]
      intro z hz e
      simp only [List.mem_cons, List.not_mem_nil, or_false] at hz
      rcases hz with rfl | rfl
      · exact absurd e md33_32.symm
      · rfl
      ⟩
    refine ⟨fun x f hx => ?_, fun x w hx => ?_, ?_, fun x d hx => ?_, fun x i hx => ?_⟩
    · exact (show ∀ p ∈ g.fn, ∃ a, mg p.1 = some (.ref a) ∧ DefOk L.K L.T base mg g T p.2 a from
        List.forall_mem_cons.mpr ⟨⟨f0, PySem.W.mg_of X G a0, ⟨false, "is_within", "is_within", defArgs s0, defBody s0, defScope s0, .none, kV0, dc0, pm0, cd0, ct0, oc0, an0, od0, sl0, N0, ["thing", "least", "most"], 60, by rw [eK]; exact l0, by rw [eK]; exact cc0, sc0, .all fun us hl => match us, hl with | [_, _, _], _ => rfl, by rw [c0]; rfl, (fun z => nomatch z)⟩, by rw [eK]; exact k0⟩,
        List.forall_mem_cons.mpr ⟨⟨f1, PySem.W.mg_of X G a1, ⟨false, "is_tie", "is_tie", defArgs s1, defBody s1, defScope s1, .none, kV1, dc1, pm1, cd1, ct1, oc1, an1, od1, sl1, N1, ["thing", "n"], 60, by rw [eK]; exact l1, by rw [eK]; exact cc1, sc1, .all fun us hl => match us, hl with | [_, _], _ => rfl, by rw [c1]; rfl, (fun z => nomatch z)⟩, by rw [eK]; exact k1⟩,
        List.forall_mem_cons.mpr ⟨⟨f2, PySem.W.mg_of X G a2, ⟨false, "raw_neighbours", "raw_neighbours", defArgs s2, defBody s2, defScope s2, .none, kV2, dc2, pm2, cd2, ct2, oc2, an2, od2, sl2, N2, ["ties", "bay"], 60, by rw [eK]; exact l2, by rw [eK]; exact cc2, sc2, .all fun us hl => match us, hl with | [_, _], _ => rfl, by rw [c2]; rfl, (fun z => nomatch z)⟩, by rw [eK]; exact k2⟩,
        List.forall_mem_cons.mpr ⟨⟨f3, PySem.W.mg_of X G a3, ⟨false, "reached", "reached", defArgs s3, defBody s3, defScope s3, .none, kV3, dc3, pm3, cd3, ct3, oc3, an3, od3, sl3, N3, ["ties", "bay", "barred"], 60, by rw [eK]; exact l3, by rw [eK]; exact cc3, sc3, .all fun us hl => match us, hl with | [_, _, _], _ => rfl, by rw [c3]; rfl, (fun z => nomatch z)⟩, by rw [eK]; exact k3⟩,
        List.forall_mem_cons.mpr ⟨⟨f4, PySem.W.mg_of X G a4, ⟨false, "is_web", "is_web", defArgs s4, defBody s4, defScope s4, .none, kV4, dc4, pm4, cd4, ct4, oc4, an4, od4, sl4, N4, ["thing"], 60, by rw [eK]; exact l4, by rw [eK]; exact cc4, sc4, .all fun us hl => match us, hl with | [_], _ => rfl, by rw [c4]; rfl, (fun z => nomatch z)⟩, by rw [eK]; exact k4⟩,
        List.forall_mem_cons.mpr ⟨⟨f5, PySem.W.mg_of X G a5, ⟨false, "need_web", "need_web", defArgs s5, defBody s5, defScope s5, .none, kV5, dc5, pm5, cd5, ct5, oc5, an5, od5, sl5, N5, ["thing"], 60, by rw [eK]; exact l5, by rw [eK]; exact cc5, sc5, .all fun us hl => match us, hl with | [_], _ => rfl, by rw [c5]; rfl, (fun z => nomatch z)⟩, by rw [eK]; exact k5⟩,
        List.forall_mem_cons.mpr ⟨⟨f6, PySem.W.mg_of X G a6, ⟨false, "need_bay", "need_bay", defArgs s6, defBody s6, defScope s6, .none, kV6, dc6, pm6, cd6, ct6, oc6, an6, od6, sl6, N6, ["web", "thing"], 60, by rw [eK]; exact l6, by rw [eK]; exact cc6, sc6, .all fun us hl => match us, hl with | [_, _], _ => rfl, by rw [c6]; rfl, (fun z => nomatch z)⟩, by rw [eK]; exact k6⟩,
        List.forall_mem_cons.mpr ⟨⟨f7, PySem.W.mg_of X G a7, ⟨false, "neighbours", "neighbours", defArgs s7, defBody s7, defScope s7, .none, kV7, dc7, pm7, cd7, ct7, oc7, an7, od7, sl7, N7, ["web", "bay"], 60, by rw [eK]; exact l7, by rw [eK]; exact cc7, sc7, .all fun us hl => match us, hl with | [_, _], _ => rfl, by rw [c7]; rfl, (fun z => nomatch z)⟩, by rw [eK]; exact k7⟩,
        List.forall_mem_cons.mpr ⟨⟨f8, PySem.W.mg_of X G a8, ⟨false, "distances", "distances", defArgs s8, defBody s8, defScope s8, .none, kV8, dc8, pm8, cd8, ct8, oc8, an8, od8, sl8, N8, ["ties", "bay"], 60, by rw [eK]; exact l8, by rw [eK]; exact cc8, sc8, .all fun us hl => match us, hl with | [_, _], _ => rfl, by rw [c8]; rfl, (fun z => nomatch z)⟩, by rw [eK]; exact k8⟩,
        List.forall_mem_cons.mpr ⟨⟨f9, PySem.W.mg_of X G a9, ⟨false, "raw_path", "raw_path", defArgs s9, defBody s9, defScope s9, .none, kV9, dc9, pm9, cd9, ct9, oc9, an9, od9, sl9, N9, ["web", "a", "b"], 60, by rw [eK]; exact l9, by rw [eK]; exact cc9, sc9, .all fun us hl => match us, hl with | [_, _, _], _ => rfl, by rw [c9]; rfl, (fun z => nomatch z)⟩, by rw [eK]; exact k9⟩,
        List.forall_mem_cons.mpr ⟨⟨f10, PySem.W.mg_of X G a10, ⟨false, "first_path", "first_path", defArgs s10, defBody s10, defScope s10, .none, kV10, dc10, pm10, cd10, ct10, oc10, an10, od10, sl10, N10, ["web", "a", "b"], 60, by rw [eK]; exact l10, by rw [eK]; exact cc10, sc10, .all fun us hl => match us, hl with | [_, _, _], _ => rfl, by rw [c10]; rfl, (fun z => nomatch z)⟩, by rw [eK]; exact k10⟩,
        List.forall_mem_cons.mpr ⟨⟨f11, PySem.W.mg_of X G a11, ⟨false, "sides_of", "sides_of", defArgs s11, defBody s11, defScope s11, .none, kV11, dc11, pm11, cd11, ct11, oc11, an11, od11, sl11, N11, ["ties", "bay"], 60, by rw [eK]; exact l11, by rw [eK]; exact cc11, sc11, .all fun us hl => match us, hl with | [_, _], _ => rfl, by rw [c11]; rfl, (fun z => nomatch z)⟩, by rw [eK]; exact k11⟩,
        List.forall_mem_cons.mpr ⟨⟨f12, PySem.W.mg_of X G a12, ⟨false, "sides", "sides", defArgs s12, defBody s12, defScope s12, .none, kV12, dc12, pm12, cd12, ct12, oc12, an12, od12, sl12, N12, ["web"], 60, by rw [eK]; exact l12, by rw [eK]; exact cc12, sc12, .all fun us hl => match us, hl with | [_], _ => rfl, by rw [c12]; rfl, (fun z => nomatch z)⟩, by rw [eK]; exact k12⟩,
        List.forall_mem_cons.mpr ⟨⟨f13, PySem.W.mg_of X G a13, ⟨false, "_law_open", "_law_open", defArgs s13, defBody s13, defScope s13, .none, kV13, dc13, pm13, cd13, ct13, oc13, an13, od13, sl13, N13, ["script"], 60, by rw [eK]; exact l13, by rw [eK]; exact cc13, sc13, .all fun us hl => match us, hl with | [_], _ => rfl, by rw [c13]; rfl, (fun z => nomatch z)⟩, by rw [eK]; exact k13⟩,
        List.forall_mem_cons.mpr ⟨⟨f14, PySem.W.mg_of X G a14, ⟨false, "_law_spread", "_law_spread", defArgs s14, defBody s14, defScope s14, .none, kV14, dc14, pm14, cd14, ct14, oc14, an14, od14, sl14, N14, ["cell", "k"], 60, by rw [eK]; exact l14, by rw [eK]; exact cc14, sc14, .all fun us hl => match us, hl with | [_, _], _ => rfl, by rw [c14]; rfl, (fun z => nomatch z)⟩, by rw [eK]; exact k14⟩,
        List.forall_mem_cons.mpr ⟨⟨f15, PySem.W.mg_of X G a15, ⟨false, "_law_take", "_law_take", defArgs s15, defBody s15, defScope s15, .none, kV15, dc15, pm15, cd15, ct15, oc15, an15, od15, sl15, N15, ["pen", "many"], 60, by rw [eK]; exact l15, by rw [eK]; exact cc15, sc15, .all fun us hl => match us, hl with | [_, _], _ => rfl, by rw [c15]; rfl, (fun z => nomatch z)⟩, by rw [eK]; exact k15⟩,
        List.forall_mem_cons.mpr ⟨⟨f16, PySem.W.mg_of X G a16, ⟨false, "_law_one_of", "_law_one_of", defArgs s16, defBody s16, defScope s16, .none, kV16, dc16, pm16, cd16, ct16, oc16, an16, od16, sl16, N16, ["pen", "some"], 60, by rw [eK]; exact l16, by rw [eK]; exact cc16, sc16, .all fun us hl => match us, hl with | [_, _], _ => rfl, by rw [c16]; rfl, (fun z => nomatch z)⟩, by rw [eK]; exact k16⟩,
        List.forall_mem_cons.mpr ⟨⟨f17, PySem.W.mg_of X G a17, ⟨false, "_law_near", "_law_near", defArgs s17, defBody s17, defScope s17, .none, kV17, dc17, pm17, cd17, ct17, oc17, an17, od17, sl17, N17, ["ties", "bay"], 60, by rw [eK]; exact l17, by rw [eK]; exact cc17, sc17, .all fun us hl => match us, hl with | [_, _], _ => rfl, by rw [c17]; rfl, (fun z => nomatch z)⟩, by rw [eK]; exact k17⟩,
        List.forall_mem_cons.mpr ⟨⟨f18, PySem.W.mg_of X G a18, ⟨false, "_law_reached", "_law_reached", defArgs s18, defBody s18, defScope s18, .none, kV18, dc18, pm18, cd18, ct18, oc18, an18, od18, sl18, N18, ["ties", "bay", "barred"], 60, by rw [eK]; exact l18, by rw [eK]; exact cc18, sc18, .all fun us hl => match us, hl with | [_, _, _], _ => rfl, by rw [c18]; rfl, (fun z => nomatch z)⟩, by rw [eK]; exact k18⟩,
        List.forall_mem_cons.mpr ⟨⟨f19, PySem.W.mg_of X G a19, ⟨false, "_law_any_names", "_law_any_names", defArgs s19, defBody s19, defScope s19, .none, kV19, dc19, pm19, cd19, ct19, oc19, an19, od19, sl19, N19, ["pen", "n"], 60, by rw [eK]; exact l19, by rw [eK]; exact cc19, sc19, .all fun us hl => match us, hl with | [_, _], _ => rfl, by rw [c19]; rfl, (fun z => nomatch z)⟩, by rw [eK]; exact k19⟩,
        List.forall_mem_cons.mpr ⟨⟨f20, PySem.W.mg_of X G a20, ⟨false, "_law_renamed", "_law_renamed", defArgs s20, defBody s20, defScope s20, .none, kV20, dc20, pm20, cd20, ct20, oc20, an20, od20, sl20, N20, ["ties", "names"], 60, by rw [eK]; exact l20, by rw [eK]; exact cc20, sc20, .all fun us hl => match us, hl with | [_, _], _ => rfl, by rw [c20]; rfl, (fun z => nomatch z)⟩, by rw [eK]; exact k20⟩,
        List.forall_mem_cons.mpr ⟨⟨f21, PySem.W.mg_of X G a21, ⟨false, "_law_ways", "_law_ways", defArgs s21, defBody s21, defScope s21, .none, kV21, dc21, pm21, cd21, ct21, oc21, an21, od21, sl21, N21, ["ends", "lengths", "first"], 60, by rw [eK]; exact l21, by rw [eK]; exact cc21, sc21, .all fun us hl => match us, hl with | [_, _, _], _ => rfl, by rw [c21]; rfl, (fun z => nomatch z)⟩, by rw [eK]; exact k21⟩,
        List.forall_mem_cons.mpr ⟨⟨f22, PySem.W.mg_of X G a22, ⟨false, "_law_piece", "_law_piece", defArgs s22, defBody s22, defScope s22, .none, kV22, dc22, pm22, cd22, ct22, oc22, an22, od22, sl22, N22, ["pen", "size"], 60, by rw [eK]; exact l22, by rw [eK]; exact cc22, sc22, .all fun us hl => match us, hl with | [_, _], _ => rfl, by rw [c22]; rfl, (fun z => nomatch z)⟩, by rw [eK]; exact k22⟩,
        List.forall_mem_cons.mpr ⟨⟨f23, PySem.W.mg_of X G a23, ⟨false, "_law_any_web", "_law_any_web", defArgs s23, defBody s23, defScope s23, .none, kV23, dc23, pm23, cd23, ct23, oc23, an23, od23, sl23, N23, ["pen", "most", "size"], 60, by rw [eK]; exact l23, by rw [eK]; exact cc23, sc23, .all fun us hl => match us, hl with | [_, _, _], _ => rfl, by rw [c23]; rfl, (fun z => nomatch z)⟩, by rw [eK]; exact k23⟩,
        List.forall_mem_cons.mpr ⟨⟨f24, PySem.W.mg_of X G a24, ⟨false, "_law_bent", "_law_bent", defArgs s24, defBody s24, defScope s24, .none, kV24, dc24, pm24, cd24, ct24, oc24, an24, od24, sl24, N24, ["pen", "value"], 60, by rw [eK]; exact l24, by rw [eK]; exact cc24, sc24, .all fun us hl => match us, hl with | [_, _], _ => rfl, by rw [c24]; rfl, (fun z => nomatch z)⟩, by rw [eK]; exact k24⟩,
        List.forall_mem_cons.mpr ⟨⟨f25, PySem.W.mg_of X G a25, ⟨false, "_law_far", "_law_far", defArgs s25, defBody s25, defScope s25, .none, kV25, dc25, pm25, cd25, ct25, oc25, an25, od25, sl25, N25, ["web", "bay"], 60, by rw [eK]; exact l25, by rw [eK]; exact cc25, sc25, .all fun us hl => match us, hl with | [_, _], _ => rfl, by rw [c25]; rfl, (fun z => nomatch z)⟩, by rw [eK]; exact k25⟩,
        List.forall_mem_cons.mpr ⟨⟨f26, PySem.W.mg_of X G a26, ⟨false, "_law_path", "_law_path", defArgs s26, defBody s26, defScope s26, .none, kV26, dc26, pm26, cd26, ct26, oc26, an26, od26, sl26, N26, ["web", "a", "b"], 60, by rw [eK]; exact l26, by rw [eK]; exact cc26, sc26, .all fun us hl => match us, hl with | [_, _, _], _ => rfl, by rw [c26]; rfl, (fun z => nomatch z)⟩, by rw [eK]; exact k26⟩,
        List.forall_mem_cons.mpr ⟨⟨f28, PySem.W.mg_of X G a28, ⟨false, "_law_is_bay", "_law_is_bay", defArgs s28, defBody s28, defScope s28, .none, kV28, dc28, pm28, cd28, ct28, oc28, an28, od28, sl28, N28, ["thing", "n"], 60, by rw [eK]; exact l28, by rw [eK]; exact cc28, sc28, .all fun us hl => match us, hl with | [_, _], _ => rfl, by rw [c28]; rfl, (fun z => nomatch z)⟩, by rw [eK]; exact k28⟩,
        List.forall_mem_cons.mpr ⟨⟨f29, PySem.W.mg_of X G a29, ⟨false, "_law_is_web", "_law_is_web", defArgs s29, defBody s29, defScope s29, .none, kV29, dc29, pm29, cd29, ct29, oc29, an29, od29, sl29, N29, ["thing"], 60, by rw [eK]; exact l29, by rw [eK]; exact cc29, sc29, .all fun us hl => match us, hl with | [_], _ => rfl, by rw [c29]; rfl, (fun z => nomatch z)⟩, by rw [eK]; exact k29⟩,
        List.forall_mem_cons.mpr ⟨⟨f30, PySem.W.mg_of X G a30, ⟨false, "_law_sides", "_law_sides", defArgs s30, defBody s30, defScope s30, .none, kV30, dc30, pm30, cd30, ct30, oc30, an30, od30, sl30, N30, ["web"], 60, by rw [eK]; exact l30, by rw [eK]; exact cc30, sc30, .all fun us hl => match us, hl with | [_], _ => rfl, by rw [c30]; rfl, (fun z => nomatch z)⟩, by rw [eK]; exact k30⟩,
        List.forall_mem_cons.mpr ⟨⟨f31, PySem.W.mg_of X G a31, ⟨false, "_law_odd_webs", "_law_odd_webs", defArgs s31, defBody s31, defScope s31, .none, kV31, dc31, pm31, cd31, ct31, oc31, an31, od31, sl31, N31, ["web"], 60, by rw [eK]; exact l31, by rw [eK]; exact cc31, sc31, .all fun us hl => match us, hl with | [_], _ => rfl, by rw [c31]; rfl, (fun z => nomatch z)⟩, by rw [eK]; exact k31⟩,
        List.forall_mem_cons.mpr ⟨⟨f32, PySem.W.mg_of X G a32, ⟨true, "_law_refused_right", "_law_refused_right", defArgs s32, defBody s32, defScope s32, .none, kV32, dc32, pm32, .ref mc32, ct32, oc32, an32, od32, sl32, N32, ["odd"], 60, by rw [eK]; exact l32, by rw [eK]; exact cc32, sc32, .all fun us hl => match us, hl with | [_], _ => rfl, by rw [c32]; rfl, fun _ => tb32⟩, by rw [eK]; exact k32⟩,
        List.forall_mem_cons.mpr ⟨⟨f33, PySem.W.mg_of X G a33, ⟨true, "_law_bays_right", "_law_bays_right", defArgs s33, defBody s33, defScope s33, .none, kV33, dc33, pm33, .ref mc33, ct33, oc33, an33, od33, sl33, N33, ["web"], 60, by rw [eK]; exact l33, by rw [eK]; exact cc33, sc33, .all fun us hl => match us, hl with | [_], _ => rfl, by rw [c33]; rfl, fun _ => tb33⟩, by rw [eK]; exact k33⟩,
        List.forall_mem_cons.mpr ⟨⟨f34, PySem.W.mg_of X G a34, ⟨false, "_law_great_right", "_law_great_right", defArgs s34, defBody s34, defScope s34, .none, kV34, dc34, pm34, cd34, ct34, oc34, an34, od34, sl34, N34, ["pen"], 60, by rw [eK]; exact l34, by rw [eK]; exact cc34, sc34, .all fun us hl => match us, hl with | [_], _ => rfl, by rw [c34]; rfl, (fun z => nomatch z)⟩, by rw [eK]; exact k34⟩,
        List.forall_mem_cons.mpr ⟨⟨fa, PySem.W.mg_of X G a35, ⟨false, "law", "law", defArgs s35, defBody s35, defScope s35, .none, kV35, dc35, pm35, cd35, ct35, oc35, an35, od35, sl35, N35, ["script"], 60, by rw [eK]; exact l35, by rw [eK]; exact cc35, sc35, .all fun us hl => match us, hl with | [_], _ => rfl, by rw [c35]; rfl, (fun z => nomatch z)⟩, by rw [eK]; exact k35⟩,
        (fun _ z => nomatch z)⟩⟩⟩⟩⟩⟩⟩⟩⟩⟩⟩⟩⟩⟩⟩⟩⟩⟩⟩⟩⟩⟩⟩⟩⟩⟩⟩⟩⟩⟩⟩⟩⟩⟩⟩) (x, f) (PySem.mem_of_lookup hx)
    · refine (show ∀ p ∈ g.lam, WordOk L.K mg L.ca p.1 p.2 from ?_) (x, w) (PySem.mem_of_lookup hx)
      rw [eK, eC]
      exact List.forall_mem_cons.mpr ⟨⟨f27, _, _, _, _, _, _, _, _, _, _, _, _, _, _, N27, "call", _, 1, _, _, _, _, _, _, _, PySem.W.mg_of X G a27, k27, l27, cc27, .all fun us hl => match us, hl with | [_], _ => rfl, sc27, rfl, .inl (by decide +kernel), (.more (by decide +kernel) (by decide +kernel) (PySem.W.mg_of X G ea1) (.more (by decide +kernel) (by decide +kernel) (PySem.W.mg_of X G ea2) (.more (by decide +kernel) (by decide +kernel) (PySem.W.mg_of X G ea0) .none))), rfl, by decide +kernel, by decide +kernel, by decide +kernel⟩, (fun _ z => nomatch z)⟩
    · exact List.forall_mem_cons.mpr ⟨PySem.W.mg_none_of X G z0, List.forall_mem_cons.mpr ⟨PySem.W.mg_none_of X G z1, List.forall_mem_cons.mpr ⟨PySem.W.mg_none_of X G z2, List.forall_mem_cons.mpr ⟨PySem.W.mg_none_of X G z3, List.forall_mem_cons.mpr ⟨PySem.W.mg_none_of X G z4, List.forall_mem_cons.mpr ⟨PySem.W.mg_none_of X G z5, List.forall_mem_cons.mpr ⟨PySem.W.mg_none_of X G z6, List.forall_mem_cons.mpr ⟨PySem.W.mg_none_of X G z7, List.forall_mem_cons.mpr ⟨PySem.W.mg_none_of X G z8, List.forall_mem_cons.mpr ⟨PySem.W.mg_none_of X G z9, List.forall_mem_cons.mpr ⟨PySem.W.mg_none_of X G z10, List.forall_mem_cons.mpr ⟨PySem.W.mg_none_of X G z11, List.forall_mem_cons.mpr ⟨PySem.W.mg_none_of X G z12, List.forall_mem_cons.mpr ⟨PySem.W.mg_none_of X G z13, List.forall_mem_cons.mpr ⟨PySem.W.mg_none_of X G z14, List.forall_mem_cons.mpr ⟨PySem.W.mg_none_of X G z15, List.forall_mem_cons.mpr ⟨PySem.W.mg_none_of X G z16, List.forall_mem_cons.mpr ⟨PySem.W.mg_none_of X G z17, (fun _ z => nomatch z)⟩⟩⟩⟩⟩⟩⟩⟩⟩⟩⟩⟩⟩⟩⟩⟩⟩⟩
    · exact (show ∀ p ∈ g.cst, ∃ v u, mg p.1 = some u ∧ RelV v u ∧ ∀ B H, Rep L B H p.2 v from List.forall_mem_cons.mpr ⟨⟨.int 40, _, PySem.W.mg_of X G cv0, ⟨_, rfl⟩, fun B H => by simp only [Rep]⟩, (fun _ z => nomatch z)⟩) (x, d) (PySem.mem_of_lookup hx)
    · refine (show ∀ p ∈ g.exc, ∃ bmB B newId initId, ExcBaseFacts B newId initId bmB ∧ PySem.W.excIn L.K (L.ca p.2) bmB newId = true ∧ mg p.1 = some (.ref (L.ca p.2)) ∧ PySem.W.keepIn L.K (.ref (L.ca p.2)) = true ∧ PySem.W.subIn L.K (.ref (L.ca p.2)) (.type "BaseException") = some true ∧ PySem.W.typeIn L.K (.ref (L.ca p.2)) = some (.type "type") from ?_) (x, i) (PySem.mem_of_lookup hx)
      rw [eK, eC]
      exact List.forall_mem_cons.mpr ⟨⟨_, _, _, _, PySem.F.excBase_ValueError, ex0, PySem.W.mg_of X G ea0, ek0, eb0, et0⟩, List.forall_mem_cons.mpr ⟨⟨_, _, _, _, PySem.F.excBase_ValueError, ex1, PySem.W.mg_of X G ea1, ek1, eb1, et1⟩, List.forall_mem_cons.mpr ⟨⟨_, _, _, _, PySem.F.excBase_ValueError, ex2, PySem.W.mg_of X G ea2, ek2, eb2, et2⟩, (fun _ z => nomatch z)⟩⟩⟩
  refine ⟨PySem.W.fnOf "law" "law" (defArgs s35) (defBody s35) (defScope s35) .none kV35 dc35 pm35 an35 cd35 ct35, [(mc32, mP32), (mc33, mP33)], spD L (callD T sub 1000 20 35), List.forall_mem_cons.mpr ⟨mt32, List.forall_mem_cons.mpr ⟨mt33, (fun _ z => nomatch z)⟩⟩, List.forall_mem_cons.mpr ⟨mn32, List.forall_mem_cons.mpr ⟨mn33, (fun _ z => nomatch z)⟩⟩, List.forall_mem_cons.mpr ⟨PySem.W.codeHd_of_K X mh32, List.forall_mem_cons.mpr ⟨PySem.W.codeHd_of_K X mh33, (fun _ z => nomatch z)⟩⟩, fun s u => .of_eq rfl, fun H a ns hl hb hH hS => ?_, fun base _ _ tb => ?_⟩
  · obtain ⟨ss2, e⟩ := pure ns hl hb
    refine law_sp (L := L) (fun q hq => ?_) (by rw [eK]; exact hS) e
    rw [eT] at hq
    simp only [List.mem_cons, List.not_mem_nil, or_false] at hq
    rcases hq with rfl | rfl
    · exact hH (mc32, mP32) (by simp)
    · exact hH (mc33, mP33) (by simp)
  · have D := def_step (P := l.prog) (w := w) (n := 19) (wf := 1000) (f := 35) Z (text base tb) (all_defs Z (text base tb) 19) (m := 60) (lm := false) (by rw [eK]; exact l35) (by rw [eK]; exact cc35) sc35 (by rw [c35]; rfl) (fun z => nomatch z)
    rw [eK] at D
    exact D
theorem ext : M.Ext T := by
  intro f d hf
  match f with
  | 0 | 1 | 2 | 3 | 4 | 5 | 6 | 7 | 8 | 9 | 10 | 11 | 12 | 13 | 14 | 15 | 16 | 17 | 18 | 19 | 20 | 21 | 22 | 23 | 24 | 25 | 26 => exact hf
  | 27 => cases hf
  | 28 | 29 | 30 => exact hf
  | n + 31 => cases hf
theorem pure : ∀ ns : List Int, ns.length ≤ 63 → (∀ z ∈ ns, Builtin.Int.intBits z ≤ 1048576) → ∃ ss', callD T sub 1000 20 35 [.shr false (.scr ns)] = .ok false (.bl true) ss' :=
  fun _ hl _ => M.e_law31 (n := 12) ext ⟨rfl, rfl, rfl, rfl, rfl⟩ ⟨rfl, rfl, rfl⟩ (by omega) (by decide) hl
end K31

open PySem PySem.W PyProof.Rows
set_option maxRecDepth 100000 in
set_option maxHeartbeats 0 in
theorem PySem.Challenge.cw_sparebay_k31_webs_holds : PySem.Challenge.rw_sparebay_k31_webs.Holds := by
  w_on; o_law; km_head; (case hw => w_witness2)
  k_fill
  refine Sb.walk_sb (l := PySem.Challenge.rw_sparebay_k31_webs) (n := 63) (k := Sb.lvl 20) (x := "script") rfl (by decide) rfl ⟨rfl, by decide, by decide⟩ (fun w h Y => km_in_of Y) ?F
  case F =>
    intro w mg fa h Y KX G hmg
    refine' K31.all_mk KX G hmg ?a0 ?l0 ?cc0 ?k0 ?a1 ?l1 ?cc1 ?k1 ?a2 ?l2 ?cc2 ?k2 ?a3 ?l3 ?cc3 ?k3 ?a4 ?l4 ?cc4 ?k4 ?a5 ?l5 ?cc5 ?k5 ?a6 ?l6 ?cc6 ?k6 ?a7 ?l7 ?cc7 ?k7 ?a8 ?l8 ?cc8 ?k8 ?a9 ?l9 ?cc9 ?k9 ?a10 ?l10 ?cc10 ?k10 ?a11 ?l11 ?cc11 ?k11 ?a12 ?l12 ?cc12 ?k12 ?a13 ?l13 ?cc13 ?k13 ?a14 ?l14 ?cc14 ?k14 ?a15 ?l15 ?cc15 ?k15 ?a16 ?l16 ?cc16 ?k16 ?a17 ?l17 ?cc17 ?k17 ?a18 ?l18 ?cc18 ?k18 ?a19 ?l19 ?cc19 ?k19 ?a20 ?l20 ?cc20 ?k20 ?a21 ?l21 ?cc21 ?k21 ?a22 ?l22 ?cc22 ?k22 ?a23 ?l23 ?cc23 ?k23 ?a24 ?l24 ?cc24 ?k24 ?a25 ?l25 ?cc25 ?k25 ?a26 ?l26 ?cc26 ?k26 ?a27 ?l27 ?cc27 ?k27 ?a28 ?l28 ?cc28 ?k28 ?a29 ?l29 ?cc29 ?k29 ?a30 ?l30 ?cc30 ?k30 ?a31 ?l31 ?cc31 ?k31 ?a32 ?l32 ?cc32 ?k32 ?mo32 ?mv32_ ?mh32 ?mn32 ?mt32 ?a33 ?l33 ?cc33 ?k33 ?mo33 ?mv33_ ?mh33 ?mn33 ?mt33 ?a34 ?l34 ?cc34 ?k34 ?a35 ?l35 ?cc35 ?k35 ?md33_32 ?ea0 ?ex0 ?ek0 ?eb0 ?et0 ?ea1 ?ex1 ?ek1 ?eb1 ?et1 ?ea2 ?ex2 ?ek2 ?eb2 ?et2 ?em0_0 ?em0_1 ?em0_2 ?em1_0 ?em1_1 ?em1_2 ?em2_0 ?em2_1 ?em2_2 ?cv0 ?z0 ?z1 ?z2 ?z3 ?z4 ?z5 ?z6 ?z7 ?z8 ?z9 ?z10 ?z11 ?z12 ?z13 ?z14 ?z15 ?z16 ?z17 K31.pure
    case a0 => k_is
    case l0 => k_is
    case cc0 => k_is
    case k0 => k_is
    case a1 => k_is
    case l1 => k_is
    case cc1 => k_is
    case k1 => k_is
    case a2 => k_is
    case l2 => k_is
    case cc2 => k_is
    case k2 => k_is
    case a3 => k_is
    case l3 => k_is
    case cc3 => k_is
    case k3 => k_is
    case a4 => k_is
    case l4 => k_is
    case cc4 => k_is
    case k4 => k_is
    case a5 => k_is
    case l5 => k_is
    case cc5 => k_is
    case k5 => k_is
    case a6 => k_is
    case l6 => k_is
    case cc6 => k_is
    case k6 => k_is
    case a7 => k_is
    case l7 => k_is
    case cc7 => k_is
    case k7 => k_is
    case a8 => k_is
    case l8 => k_is
    case cc8 => k_is
    case k8 => k_is
    case a9 => k_is
    case l9 => k_is
    case cc9 => k_is
    case k9 => k_is
    case a10 => k_is
    case l10 => k_is
    case cc10 => k_is
    case k10 => k_is
    case a11 => k_is
    case l11 => k_is
    case cc11 => k_is
    case k11 => k_is
    case a12 => k_is
    case l12 => k_is
    case cc12 => k_is
    case k12 => k_is
    case a13 => k_is
    case l13 => k_is
    case cc13 => k_is
    case k13 => k_is
    case a14 => k_is
    case l14 => k_is
    case cc14 => k_is
    case k14 => k_is
    case a15 => k_is
    case l15 => k_is
    case cc15 => k_is
    case k15 => k_is
    case a16 => k_is
    case l16 => k_is
    case cc16 => k_is
    case k16 => k_is
    case a17 => k_is
    case l17 => k_is
    case cc17 => k_is
    case k17 => k_is
    case a18 => k_is
    case l18 => k_is
    case cc18 => k_is
    case k18 => k_is
    case a19 => k_is
    case l19 => k_is
    case cc19 => k_is
    case k19 => k_is
    case a20 => k_is
    case l20 => k_is
    case cc20 => k_is
    case k20 => k_is
    case a21 => k_is
    case l21 => k_is
    case cc21 => k_is
    case k21 => k_is
    case a22 => k_is
    case l22 => k_is
    case cc22 => k_is
    case k22 => k_is
    case a23 => k_is
    case l23 => k_is
    case cc23 => k_is
    case k23 => k_is
    case a24 => k_is
    case l24 => k_is
    case cc24 => k_is
    case k24 => k_is
    case a25 => k_is
    case l25 => k_is
    case cc25 => k_is
    case k25 => k_is
    case a26 => k_is
    case l26 => k_is
    case cc26 => k_is
    case k26 => k_is
    case a27 => k_is
    case l27 => k_is
    case cc27 => k_is
    case k27 => k_is
    case a28 => k_is
    case l28 => k_is
    case cc28 => k_is
    case k28 => k_is
    case a29 => k_is
    case l29 => k_is
    case cc29 => k_is
    case k29 => k_is
    case a30 => k_is
    case l30 => k_is
    case cc30 => k_is
    case k30 => k_is
    case a31 => k_is
    case l31 => k_is
    case cc31 => k_is
    case k31 => k_is
    case a32 => k_is
    case l32 => k_is
    case cc32 => k_is
    case k32 => k_is
    case mo32 => k_is
    case mv32_ => rfl
    case mh32 => kernel_rfl
    case mn32 => kernel_rfl
    case mt32 => exact km_tabs_of Y _ (by k_mem)
    case a33 => k_is
    case l33 => k_is
    case cc33 => k_is
    case k33 => k_is
    case mo33 => k_is
    case mv33_ => rfl
    case mh33 => kernel_rfl
    case mn33 => kernel_rfl
    case mt33 => exact km_tabs_of Y _ (by k_mem)
    case a34 => k_is
    case l34 => k_is
    case cc34 => k_is
    case k34 => k_is
    case a35 => k_is
    case l35 => k_is
    case cc35 => k_is
    case k35 => k_is
    case md33_32 => decide
    case ea0 => k_is
    case ex0 => k_exc
    case ek0 => k_is
    case eb0 => k_is
    case et0 => k_is
    case ea1 => k_is
    case ex1 => k_exc
    case ek1 => k_is
    case eb1 => k_is
    case et1 => k_is
    case ea2 => k_is
    case ex2 => k_exc
    case ek2 => k_is
    case eb2 => k_is
    case et2 => k_is
    case em0_0 => kernel_rfl
    case em0_1 => kernel_rfl
    case em0_2 => kernel_rfl
    case em1_0 => kernel_rfl
    case em1_1 => kernel_rfl
    case em1_2 => kernel_rfl
    case em2_0 => kernel_rfl
    case em2_1 => kernel_rfl
    case em2_2 => kernel_rfl
    case cv0 => k_is
    case z0 => k_is
    case z1 => k_is
    case z2 => k_is
    case z3 => k_is
    case z4 => k_is
    case z5 => k_is
    case z6 => k_is
    case z7 => k_is
    case z8 => k_is
    case z9 => k_is
    case z10 => k_is
    case z11 => k_is
    case z12 => k_is
    case z13 => k_is
    case z14 => k_is
    case z15 => k_is
    case z16 => k_is
    case z17 => k_is
