import PyProof.Rows.All
import Wide.All
import OpenK.AllK
import Wide.FinOn
import HandS.ForMost
import HandS.Wide
import HandS.TupAny
import HandS.TupMul
import HandS.Style
import HandS.Deep
import HandS.IsInst
import HandS.Zip
import KE.SortData
import HandS.Flow
import HandS.Conv
import PyProof.AutoSeq1
import HandS.SetFor
import KE.KTupSum
import KE.DataMinMax
import HandS.TupSets
import HandS.RaiseMore
import KE.KIndexOf
import KE.GoesEnum
import KE.KDictZip
import HandS.Small
import HandS.TryOnly
import HandS.Comp
import HandS.Words
import PySem.Challenge.RW_equalsums_k96_whole_bags_and_squares
section
set_option Elab.async false
set_option linter.all false
set_option maxRecDepth 100000
set_option maxHeartbeats 4000000
namespace MP
open PySem L2

/-! ## values, heap, outcomes -/
/-- the keys of a dict: ints and texts, or tuples of these -/
inductive Ks where
  | k (l : List Key) | t (l : List (List Key))
  deriving Inhabited
inductive D where
  | non | bl (b : Bool) | int (i : Int) | str (s : Str) | rp (p : PyData)
  | tup (ds : List D) | lst (ds : List D) | ref (n : Nat) | dct (ks : Ks) (ds : List D) | xt (ds : List D)
  deriving Inhabited

/-- what the heap holds: lists; dicts (lk: while they are walked) -/
inductive O where
  | lst (ds : List D) | dct (lk : Bool) (ks : Ks) (ds : List D)
  deriving Inhabited
abbrev Hh := List O

structure Ex where
  cls : Nat
  args : List D

inductive Out (α : Type) where
  | ok (a : α) (h : Hh) | er (e : Ex) (h : Hh) | no

def Out.bind {α β : Type} (o : Out α) (k : α → Hh → Out β) : Out β := match o with
  | .ok a h => k a h
  | .er e h => .er e h
  | .no => .no

/-- a result: a value, or a list that nobody else holds -/
inductive R where
  | d (x : D) | fl (ds : List D)
  deriving Inhabited
def R.toD : R → D
  | .d x => x
  | .fl ds => .lst ds

/-! ## syntax -/
inductive BI where
  | len | abs | sum | mn | mx | mn2 | mx2 | srt | lst | tup | int | str | repr | any | all
  | isInt | isBool | isTup | isLst | isStr
  | lenset | lzip | lrng1 | lrng2 | xtup
  deriving DecidableEq

inductive ME where
  | append | extend | pop | popAt
  deriving DecidableEq

mutual
inductive E where
  | v (i : Nat)
  | c (d : D)
  | g (k : Nat)
  | tup (es : Es)
  | lst (es : Es)
  | bin (op : Operator) (a b : E)
  | neg (a : E)
  | not (a : E)
  | cmp (op : CmpOp) (a b : E)
  | chain (o1 o2 : CmpOp) (a b c : E)
  | and (a b : E)
  | or (a b : E)
  | ite (t a b : E)
  | ix (a b : E)
  | sl (b1 b2 : Bool) (a lo hi : E)
  | none
  | rev (a : E)
  | dnew
  | tix (o x : E)
  | dget (o k x : E)
  | call (f : Nat) (ps kws : Es) (pm : List Nat)
  | bi (b : BI) (es : Es)
  | meth (m : ME) (o : E) (es : Es)
  | lc (elt : E) (tg : T) (it : I) (ifs : Es) (own : List Nat)
  | al (e : E)
inductive Es where
  | nil | cons (e : E) (es : Es)
inductive T where
  | nm (i : Nat) | tp (ts : Ts) | sb (a i : E)
inductive Ts where
  | nil | cons (t : T) (ts : Ts)
inductive I where
  | e (a : E) | rg1 (a : E) | rg2 (a b : E) | en (a : E) | zp (a b : E)
end

mutual
inductive S where
  | asg (t : T) (e : E)
  | exp (e : E)
  | ret (e : E)
  | ite (t : E) (a b : Ss)
  | for (t : T) (it : I) (body : Ss)
  | while (t : E) (body : Ss)
  | pass
  | raise
inductive Ss where
  | nil | cons (s : S) (ss : Ss)
end

/-! ## helpers -/
mutual
def lowD (n : Nat) : D → Bool
  | .tup ds => lowAll n ds
  | .lst ds => lowAll n ds
  | .ref m => decide (m < n)
  | .dct _ ds => lowAll n ds
  | .xt ds => lowAll n ds
  | _ => true
def lowAll (n : Nat) : List D → Bool
  | [] => true
  | d :: ds => lowD n d && lowAll n ds
end
def lowR (n : Nat) : R → Bool
  | .d x => lowD n x
  | .fl ds => lowAll n ds

def allO {α : Type} : List (Option α) → Option (List α)
  | [] => some []
  | some a :: r => match allO r with
    | some l => some (a :: l)
    | none => none
  | none :: _ => none

/-- the plain datum that a value stands for -/
def py (h : Hh) : Nat → D → Option PyData
  | 0, _ => none
  | k + 1, d => match d with
    | .non => some .none
    | .bl b => some (.bool b)
    | .int i => some (.int i)
    | .str s => some (.str s)
    | .rp p => some (.str p.shown)
    | .tup ds => match allO (ds.map (py h k)) with
      | some l => some (.tuple l)
      | none => none
    | .lst ds => match allO (ds.map (py h k)) with
      | some l => some (.list l)
      | none => none
    | .ref n => match h[n]? with
      | some (.lst ds) => match allO (ds.map (py h k)) with
        | some l => some (.list l)
        | none => none
      | _ => none
    | .dct _ _ => none
    | .xt ds => match allO (ds.map (py h k)) with
      | some l => some (.tuple l)
      | none => none
abbrev deep : Nat := 40

/-- a list's items -/
def viewL (h : Hh) : R → Option (List D)
  | .fl ds => some ds
  | .d (.lst ds) => some ds
  | .d (.ref n) => match h[n]? with
    | some (.lst ds) => some ds
    | _ => none
  | _ => none
def viewT : R → Option (List D)
  | .d (.tup ds) => some ds
  | .d (.xt ds) => some ds
  | _ => none
def viewS (h : Hh) (r : R) : Option (List D) := match viewT r with
  | some ds => some ds
  | none => viewL h r

/-- a dict's keys and values -/
def viewK (h : Hh) : R → Option (List Key × List D)
  | .d (.dct (.k l) ds) => some (l, ds)
  | .d (.ref n) => match h[n]? with
    | some (.dct _ (.k l) ds) => some (l, ds)
    | _ => none
  | _ => none
def keyK : R → Option Key
  | .d (.int i) => some (.inl i)
  | .d (.str x) => some (.inr x)
  | _ => none
def getZ {κ : Type} [DecidableEq κ] : List κ → List D → κ → Option D
  | k :: l, d :: ds, j => if k = j then some d else getZ l ds j
  | _, _, _ => none
def putZ {κ : Type} [DecidableEq κ] (l : List κ) (ds : List D) (j : κ) (x : D) : List κ × List D :=
  if (getZ l ds j).isSome then (l, (l.zip ds).map fun p => if p.1 = j then x else p.2) else (l ++ [j], ds ++ [x])
def intsD : List D → Option (List Int)
  | [] => some []
  | .int i :: r => match intsD r with
    | some l => some (i :: l)
    | none => none
  | _ :: _ => none
def boolsD : List D → Option (List Bool)
  | [] => some []
  | .bl i :: r => match boolsD r with
    | some l => some (i :: l)
    | none => none
  | _ :: _ => none

/-- truth -/
def truth (h : Hh) : R → Option Bool
  | .d .non => some false
  | .d (.bl b) => some b
  | .d (.int i) => some (i != 0)
  | .d (.tup ds) => some (!ds.isEmpty)
  | .d (.xt ds) => some (!ds.isEmpty)
  | r => match viewL h r with
    | some ds => some (!ds.isEmpty)
    | none => none

def line (n : Nat) : Bool := decide (n ≤ sizeLine)

/-! ## operators -/
abbrev Op2 := R → R → Hh → Option R
def addL (x y : R) (h : Hh) : Option R := match viewL h x, viewL h y with
  | some a, some b => if line (a.length + b.length) then some (.fl (a ++ b)) else none
  | _, _ => none
def addD (x y : R) (h : Hh) : Option R := match x, y with
  | .d (.int i), .d (.int j) => some (.d (.int (i + j)))
  | .d (.tup a), .d (.tup b) => if line (a.length + b.length) then some (.d (.tup (a ++ b))) else none
  | x, y => addL x y h
def subD (x y : R) (_ : Hh) : Option R := match x, y with
  | .d (.int i), .d (.int j) => some (.d (.int (i - j)))
  | _, _ => none
def mulL (x : R) (k : Int) (h : Hh) : Option R := match viewL h x with
  | some a => if -(2 ^ 63) ≤ k ∧ k < 2 ^ 63 ∧ a.length * k.toNat ≤ sizeLine then some (.fl (List.replicate k.toNat a).flatten) else none
  | _ => none
/-- a product that the machine makes: a factor below 2^64, or of together less than a million bits -/
def mulOk (i j : Int) : Bool := Nat.blt i.natAbs 18446744073709551616 || (Nat.blt j.natAbs 18446744073709551616 || Nat.blt (i.natAbs.log2 + j.natAbs.log2) 1000000)
def mulD (x y : R) (h : Hh) : Option R := match x, y with
  | .d (.int i), .d (.int j) => if mulOk i j then some (.d (.int (i * j))) else none
  | .d (.tup a), .d (.int k) => if k = 1 then some (.d (.tup a)) else if 1 ≤ a.length ∧ a.length ≤ 1000 ∧ 2 ≤ k ∧ k ≤ 1000 then some (.d (.tup (List.replicate k.toNat a).flatten)) else none
  | x, .d (.int k) => mulL x k h
  | _, _ => none
def fdivD (x y : R) (_ : Hh) : Option R := match x, y with
  | .d (.int i), .d (.int j) => if 0 < j ∧ j.natAbs.log2 < 9000 then some (.d (.int (i / j))) else if j < 0 ∧ j.natAbs < 1073741824 then some (.d (.int (i.fdiv j))) else none
  | _, _ => none
def modD (x y : R) (_ : Hh) : Option R := match x, y with
  | .d (.int i), .d (.int j) => if 0 < j then some (.d (.int (i % j))) else none
  | _, _ => none
def powD (x y : R) (_ : Hh) : Option R := match x, y with
  | .d (.int i), .d (.int j) => if 0 ≤ j ∧ j ≤ 1000000 ∧ i.natAbs < 2 ^ 64 then some (.d (.int (i ^ j.toNat))) else none
  | _, _ => none
def bandD (x y : R) (_ : Hh) : Option R := match x, y with
  | .d (.int i), .d (.int j) => some (.d (.int (Builtin.bitAnd i j)))
  | _, _ => none
def noD (_ _ : R) (_ : Hh) : Option R := none
def binD : Operator → Op2
  | .Add => addD
  | .Sub => subD
  | .Mult => mulD
  | .FloorDiv => fdivD
  | .Mod => modD
  | .Pow => powD
  | .BitAnd => bandD
  | _ => noD

mutual
/-- the same datum, to the sign -/
def same : PyData → PyData → Bool
  | .none, .none => true
  | .bool a, .bool b => a == b
  | .int a, .int b => decide (a = b)
  | .str a, .str b => decide (a = b)
  | .list a, .list b => sames a b
  | .tuple a, .tuple b => sames a b
  | _, _ => false
def sames : List PyData → List PyData → Bool
  | [], [] => true
  | x :: xs, y :: ys => same x y && sames xs ys
  | _, _ => false
end

def eqD (x y : R) (h : Hh) : Option Bool :=
  match x, y with
  | .d (.int i), .d (.int j) => some (decide (i = j))
  | .d (.rp p), .d (.rp q) => some (same p q || (p.shown == q.shown))
  | x, y => match py h deep x.toD, py h deep y.toD with
    | some a, some b => if SeqAt.shaped a && SeqAt.shaped b then some (PyData.eqv a b) else none
    | _, _ => none

def inD (x y : R) (h : Hh) : Option Bool := match viewK h y with
  | some (l, ds) => match keyK x with
    | some k => some (getZ l ds k).isSome
    | none => none
  | none => match py h deep x.toD, viewL h y, py h deep y.toD with
  | some a, some _, some (.list bs) => if SeqAt.shaped a && SeqAt.shaped (.list bs) then some (bs.any fun z => PyData.eqv z a) else none
  | _, _, _ => none

def ltD (x y : R) (_ : Hh) : Option Bool := match x, y with
  | .d (.int i), .d (.int j) => some (decide (i < j))
  | .d (.tup a), .d (.tup b) => match intsD a, intsD b with
    | some ns, some ms => some (HT.lexLt ns ms)
    | _, _ => none
  | _, _ => none
def leD (x y : R) (_ : Hh) : Option Bool := match x, y with
  | .d (.int i), .d (.int j) => some (decide (i ≤ j))
  | _, _ => none
def gtD (x y : R) (_ : Hh) : Option Bool := match x, y with
  | .d (.int i), .d (.int j) => some (decide (j < i))
  | _, _ => none
def geD (x y : R) (_ : Hh) : Option Bool := match x, y with
  | .d (.int i), .d (.int j) => some (decide (j ≤ i))
  | _, _ => none
def neD (x y : R) (h : Hh) : Option Bool := match eqD x y h with
  | some b => some (!b)
  | none => none
def ninD (x y : R) (h : Hh) : Option Bool := match inD x y h with
  | some b => some (!b)
  | none => none
def isD (x y : R) (_ : Hh) : Option Bool := match x, y with
  | .d (.bl a), .d (.bl b) => some (decide (a = b))
  | .d .non, .d .non => some true
  | _, .d .non => some false
  | _, _ => none
def nisD (x y : R) (h : Hh) : Option Bool := match isD x y h with
  | some b => some (!b)
  | none => none
def cmpD : CmpOp → R → R → Hh → Option Bool
  | .Lt => ltD
  | .LtE => leD
  | .Gt => gtD
  | .GtE => geD
  | .Eq => eqD
  | .NotEq => neD
  | .In => inD
  | .NotIn => ninD
  | .Is => isD
  | .IsNot => nisD

def at? (ds : List D) (i : Int) : Option D := L2.atI ds i

def ixD (x y : R) (h : Hh) : Option D := match viewK h x with
  | some (l, ds) => match keyK y with
    | some k => getZ l ds k
    | none => none
  | none => match y with
    | .d (.int i) => match viewS h x with
      | some ds => L2.atI ds i
      | none => none
    | _ => none
def dgetD (x y z : R) (h : Hh) : Option D := match viewK h x, z with
  | some (l, ds), .d z => match keyK y with
    | some k => some ((getZ l ds k).getD z)
    | none => none
  | _, _ => none

def cutD (ds : List D) (lo hi : Option Int) : List D := (ds.drop (HT.sIx ds.length 0 lo)).take (HT.sIx ds.length ds.length hi - HT.sIx ds.length 0 lo)
def slD (x : R) (lo hi : Option Int) (h : Hh) : Option R := match viewT x with
  | some ds => some (.d (.tup (cutD ds lo hi)))
  | none => match viewL h x with
    | some ds => some (.fl (cutD ds lo hi))
    | none => none
def revD (x : R) (h : Hh) : Option R := match viewT x with
  | some ds => some (.d (.tup ds.reverse))
  | none => match viewL h x with
    | some ds => some (.fl ds.reverse)
    | none => none

/-! ### sorting: as the library's order says -/
def pys (h : Hh) (ds : List D) : Option (List PyData) := allO (ds.map (py h deep))
/-- a stable sort -/
def insBy {α : Type} (le : α → α → Bool) (x : α) : List α → List α
  | [] => [x]
  | y :: r => if le x y then x :: y :: r else y :: insBy le x r
def isort {α : Type} (le : α → α → Bool) : List α → List α
  | [] => []
  | x :: r => insBy le x (isort le r)
/-- ints to the same depth -/
def flatI : Nat → PyData → Bool
  | 0, .int _ => true
  | k + 1, .tuple xs => xs.all (flatI k)
  | _, _ => false
def alikes2 : List PyData → Bool
  | [] => true
  | x :: r => PySem.W.alike x x && r.all (fun y => PySem.W.alike x y && PySem.W.alike y x) && alikes2 r
def alikes (ps : List PyData) : Bool := ps.all (flatI 0) || (ps.all (flatI 1) || (ps.all (flatI 2) || (ps.all (flatI 3) || alikes2 ps)))
def tupNE : PyData → Bool
  | .tuple (_ :: _) => true
  | _ => false
def plainK : PyData → Bool
  | .none => false
  | .tuple _ => false
  | _ => true
def srtD (ds : List D) (h : Hh) : Option R := match pys h ds with
  | some ps => if line ds.length && alikes ps && (ps.all tupNE || ps.all plainK) && ps.all (fun p => decide (p.depth ≤ 40)) then
      some (.fl ((isort (PySem.W.dataLe false (fun b : D × PyData => b.2)) (ds.zip ps)).map (·.1))) else none
  | none => none

def rng (lo hi : Int) : List D := (List.range (hi - lo).toNat).map fun i => D.int (lo + (i : Nat))
def zipD : List D → List D → List D
  | a :: r, b :: s => .tup [a, b] :: zipD r s
  | _, _ => []
def dedup (ns : List Int) : List Int := ns.foldl PyProof.Rows.step_dedup []

mutual
/-- at most so many signs when shown -/
def room : PyData → Nat
  | .none => 4
  | .bool _ => 5
  | .int i => i.natAbs.log2 + 3
  | .str s => 10 * s.length + 2
  | .list l => rooms l + 3
  | .tuple l => rooms l + 3
  | .dict _ => 0
def rooms : List PyData → Nat
  | [] => 0
  | x :: r => room x + 2 + rooms r
end
mutual
def rOk : PyData → Bool
  | .str s => s.cps.toList.all fun c => decide (c < 16 ^ 8)
  | .list l => rOks l
  | .tuple l => rOks l
  | _ => true
def rOks : List PyData → Bool
  | [] => true
  | x :: r => rOk x && rOks r
end
def reprD (x : R) (h : Hh) : Option R := match py h deep x.toD with
  | some p => if p.showable && !p.hasDict && rOk p && decide (p.depth ≤ 40) && line (room p) then some (.d (.rp p)) else none
  | none => none

abbrev B1 := List R → Hh → Option R
/-- the ints of one list or tuple -/
def ints1 (xs : List R) (h : Hh) : Option (List Int) := match xs with
  | [x] => match viewS h x with
    | some ds => intsD ds
    | none => none
  | _ => none
def seq1 (xs : List R) (h : Hh) : Option (List D) := match xs with
  | [x] => viewS h x
  | _ => none
def bLen (xs : List R) (h : Hh) : Option R := match seq1 xs h with
  | some ds => some (.d (.int ds.length))
  | none => none
def bAbs (xs : List R) (_ : Hh) : Option R := match xs with
  | [.d (.int i)] => some (.d (.int (if i < 0 then -i else i)))
  | _ => none
def bSum (xs : List R) (h : Hh) : Option R := match ints1 xs h with
  | some ns => some (.d (.int ns.sum))
  | none => none
def nNone : PyData → Bool
  | .none => false
  | _ => true
/-- the first of the best -/
def bestD (f : PyData → PyData → Bool) : D → PyData → List D → List PyData → D
  | d, p, e :: ds, q :: ps => if f q p then bestD f e q ds ps else bestD f d p ds ps
  | d, _, _, _ => d
def mnmxD (f : PyData → PyData → Bool) (xs : List R) (h : Hh) : Option R := match seq1 xs h with
  | some (d :: ds) => match pys h (d :: ds) with
    | some (p :: ps) => if alikes (p :: ps) && ((p :: ps).all nNone && (p :: ps).all fun p => decide (p.depth ≤ 40)) then some (.d (bestD f d p ds ps)) else none
    | _ => none
  | _ => none
def bMn (xs : List R) (h : Hh) : Option R := match ints1 xs h with
  | some (n :: r) => some (.d (.int (r.foldl min n)))
  | some [] => none
  | none => mnmxD PySem.W.dataLt xs h
def bMx (xs : List R) (h : Hh) : Option R := match ints1 xs h with
  | some (n :: r) => some (.d (.int (r.foldl max n)))
  | some [] => none
  | none => mnmxD (fun a b => PySem.W.dataLt b a) xs h
def bMn2 (xs : List R) (_ : Hh) : Option R := match xs with
  | [.d (.int i), .d (.int j)] => some (.d (.int (if j < i then j else i)))
  | _ => none
def bMx2 (xs : List R) (_ : Hh) : Option R := match xs with
  | [.d (.int i), .d (.int j)] => some (.d (.int (if j > i then j else i)))
  | _ => none
def bSrt (xs : List R) (h : Hh) : Option R := match seq1 xs h with
  | some ds => srtD ds h
  | none => none
def bLst (xs : List R) (h : Hh) : Option R := match seq1 xs h with
  | some ds => some (.fl ds)
  | none => none
def bTup (xs : List R) (h : Hh) : Option R := match seq1 xs h with
  | some ds => some (.d (.tup ds))
  | none => none
/-- tuple(l) of a list: the new tuple is known to the sign -/
def bXtup (xs : List R) (h : Hh) : Option R := match xs with
  | [x] => match viewL h x with
    | some ds => some (.d (.xt ds))
    | none => none
  | _ => none
def bInt (xs : List R) (_ : Hh) : Option R := match xs with
  | [.d (.int i)] => some (.d (.int i))
  | [.d (.bl k)] => some (.d (.int (if k then 1 else 0)))
  | _ => none
def bStr (xs : List R) (_ : Hh) : Option R := match xs with
  | [.d (.int i)] => if i.natAbs.log2 < 1920 then some (.d (.rp (.int i))) else none
  | _ => none
def bRepr (xs : List R) (h : Hh) : Option R := match xs with
  | [x] => reprD x h
  | _ => none
def bools1 (xs : List R) (h : Hh) : Option (List Bool) := match xs with
  | [x] => match viewL h x with
    | some ds => boolsD ds
    | none => none
  | _ => none
def bAny (xs : List R) (h : Hh) : Option R := match bools1 xs h with
  | some bs => some (.d (.bl (bs.any id)))
  | none => none
def bAll (xs : List R) (h : Hh) : Option R := match bools1 xs h with
  | some bs => some (.d (.bl (bs.all id)))
  | none => none
def isInt : D → Bool
  | .int _ => true
  | .bl _ => true
  | _ => false
def isBool : D → Bool
  | .bl _ => true
  | _ => false
def isTup : D → Bool
  | .tup _ => true
  | .xt _ => true
  | _ => false
def isLst : D → Bool
  | .lst _ => true
  | .ref _ => true
  | _ => false
def isStr : D → Bool
  | .str _ => true
  | .rp _ => true
  | _ => false
/-- a thing whose type is told: no dict -/
def okIs (h : Hh) : D → Bool
  | .ref n => match h[n]? with
    | some (.lst _) => true
    | _ => false
  | .dct _ _ => false
  | _ => true
def bIs (f : D → Bool) (xs : List R) (h : Hh) : Option R := match xs with
  | [.d x] => if okIs h x then some (.d (.bl (f x))) else none
  | [.fl x] => some (.d (.bl (f (.lst x))))
  | _ => none
def bLenset (xs : List R) (h : Hh) : Option R := match ints1 xs h with
  | some ns => if ns.length ≤ 4000 then some (.d (.int (dedup ns).length)) else none
  | none => none
def bLzip (xs : List R) (h : Hh) : Option R := match xs with
  | [x, y] => match viewS h x, viewS h y with
    | some a, some b => if line (a.length + b.length) then some (.fl (zipD a b)) else none
    | _, _ => none
  | _ => none
def bLrng1 (xs : List R) (_ : Hh) : Option R := match xs with
  | [.d (.int j)] => if -(2 ^ 62) ≤ j ∧ j < 2 ^ 62 ∧ j.toNat ≤ sizeLine then some (.fl (rng 0 j)) else none
  | _ => none
def bLrng2 (xs : List R) (_ : Hh) : Option R := match xs with
  | [.d (.int i), .d (.int j)] => if -(2 ^ 62) ≤ i ∧ i < 2 ^ 62 ∧ -(2 ^ 62) ≤ j ∧ j < 2 ^ 62 ∧ (j - i).toNat ≤ sizeLine then some (.fl (rng i j)) else none
  | _ => none
def biD : BI → B1
  | .len => bLen
  | .abs => bAbs
  | .sum => bSum
  | .mn => bMn
  | .mx => bMx
  | .mn2 => bMn2
  | .mx2 => bMx2
  | .srt => bSrt
  | .lst => bLst
  | .tup => bTup
  | .int => bInt
  | .str => bStr
  | .repr => bRepr
  | .any => bAny
  | .all => bAll
  | .isInt => bIs isInt
  | .isBool => bIs isBool
  | .isTup => bIs isTup
  | .isLst => bIs isLst
  | .isStr => bIs isStr
  | .lenset => bLenset
  | .lzip => bLzip
  | .lrng1 => bLrng1
  | .lrng2 => bLrng2
  | .xtup => bXtup

/-- a method of a list: the answer, the heap -/
def mAppend (n : Nat) (ds : List D) (xs : List R) (h : Hh) : Out R := match xs with
  | [x] => if lowD n x.toD ∧ ds.length < sizeLine then .ok (.d .non) (h.set n (.lst (ds ++ [x.toD]))) else .no
  | _ => .no
def mExtend (n : Nat) (ds : List D) (xs : List R) (h : Hh) : Out R := match xs with
  | [x] => match viewS h x with
    | some zs => if lowAll n zs ∧ ds.length + zs.length ≤ sizeLine then .ok (.d .non) (h.set n (.lst (ds ++ zs))) else .no
    | none => .no
  | _ => .no
def mPop (n : Nat) (ds : List D) (xs : List R) (h : Hh) : Out R := match xs with
  | [] => match ds[ds.length - 1]? with
    | some y => .ok (.d y) (h.set n (.lst ds.dropLast))
    | none => .no
  | _ => .no
def popAt (n : Nat) (ds : List D) (o : Option Nat) (h : Hh) : Out R := match o with
  | some k => match ds[k]? with
    | some y => .ok (.d y) (h.set n (.lst (ds.eraseIdx k)))
    | none => .no
  | none => .no
def mPopAt (n : Nat) (ds : List D) (xs : List R) (h : Hh) : Out R := match xs with
  | [.d (.int i)] => if -(2 ^ 63) ≤ i ∧ i < 2 ^ 63 then popAt n ds (seqIndex? i ds.length) h else .no
  | _ => .no
def mD : ME → Nat → List D → List R → Hh → Out R
  | .append => mAppend
  | .extend => mExtend
  | .pop => mPop
  | .popAt => mPopAt
def methD (m : ME) (o : R) (xs : List R) (h : Hh) : Out R := match o with
  | .d (.ref n) => match h[n]? with
    | some (.lst ds) => mD m n ds xs h
    | _ => .no
  | _ => .no

/-! ## walks -/
inductive Cur where
  | st (ds : List D)
  | lv (n i : Nat)
  | en (k : Nat) (c : Cur)
  | zp (a b : Cur)
inductive Nx where
  | stuck | stop | it (d : D) (c : Cur)
def next : Cur → Hh → Nx
  | .st [], _ => .stop
  | .st (d :: ds), _ => .it d (.st ds)
  | .lv n i, h => match h[n]? with
    | some (.lst ds) => match ds[i]? with
      | some d => .it d (.lv n (i + 1))
      | none => .stop
    | _ => .stuck
  | .en k c, h => match next c h with
    | .it d c' => .it (.tup [.int k, d]) (.en (k + 1) c')
    | .stop => .stop
    | .stuck => .stuck
  | .zp a b, h => match next a h, next b h with
    | .it d a', .it e b' => .it (.tup [d, e]) (.zp a' b')
    | .stop, .it _ _ => .stop
    | .stop, .stop => .stop
    | .it _ _, .stop => .stop
    | _, _ => .stuck
def curOf (h : Hh) : R → Option Cur
  | .fl ds => some (.st ds)
  | .d (.lst ds) => some (.st ds)
  | .d (.tup ds) => some (.st ds)
  | .d (.xt ds) => some (.st ds)
  | .d (.ref n) => match h[n]? with
    | some (.lst _) => some (.lv n 0)
    | _ => none
  | _ => none

abbrev En := List (Option D)
def wipeE (en : En) : List Nat → En
  | [] => en
  | v :: vs => (wipeE en vs).set v none
inductive Fl where
  | nx (en : En) | rt (r : R)

def FUEL : Nat := 1000000
def forLoop (step : D → En → Hh → Out Fl) : Nat → Cur → En → Hh → Out Fl
  | 0, _, _, _ => .no
  | k + 1, c, en, h => match next c h with
    | .stuck => .no
    | .stop => .ok (.nx en) h
    | .it d c' => match step d en h with
      | .ok (.nx en') h' => forLoop step k c' en' h'
      | .ok (.rt r) h' => .ok (.rt r) h'
      | .er e h' => .er e h'
      | .no => .no
def whileLoop (test : En → Hh → Out Bool) (step : En → Hh → Out Fl) : Nat → En → Hh → Out Fl
  | 0, _, _ => .no
  | k + 1, en, h => match test en h with
    | .ok true h1 => match step en h1 with
      | .ok (.nx en') h' => whileLoop test step k en' h'
      | .ok (.rt r) h' => .ok (.rt r) h'
      | .er e h' => .er e h'
      | .no => .no
    | .ok false h1 => .ok (.nx en) h1
    | .er e h' => .er e h'
    | .no => .no
/-- a comprehension's turns: a turn gives an item, or none -/
def lcLoop (step : D → Hh → Out (Option D)) : Nat → Cur → List D → Hh → Out (List D)
  | 0, _, _, _ => .no
  | k + 1, c, acc, h => match next c h with
    | .stuck => .no
    | .stop => .ok acc.reverse h
    | .it d c' => match step d h with
      | .ok (some x) h' => lcLoop step k c' (x :: acc) h'
      | .ok none h' => lcLoop step k c' acc h'
      | .er e h' => .er e h'
      | .no => .no

def ofO {α : Type} (o : Option α) (h : Hh) : Out α := match o with
  | some a => .ok a h
  | none => .no

abbrev Cl := Nat → List D → Hh → Out R

/-! ## what the pieces of a text mean -/
abbrev Den := En → Hh → Out R
abbrev DenL := En → Hh → Out (List R)
def kV (i : Nat) : Den := fun en h => match en[i]? with
  | some (some d) => .ok (.d d) h
  | _ => .no
def kC (d : D) : Den := fun _ h => .ok (.d d) h
def kG (cs : List D) (k : Nat) : Den := fun _ h => match cs[k]? with
  | some d => .ok (.d d) h
  | none => .no
def kTup (es : DenL) : Den := fun en h => match es en h with
  | .ok rs h => if line rs.length then .ok (.d (.tup (rs.map R.toD))) h else .no
  | .er e h => .er e h
  | .no => .no
def kLst (es : DenL) : Den := fun en h => match es en h with
  | .ok rs h => if line rs.length then .ok (.fl (rs.map R.toD)) h else .no
  | .er e h => .er e h
  | .no => .no
def kBin (op : Operator) (a b : Den) : Den := fun en h => (a en h).bind fun x h => (b en h).bind fun y h => ofO (binD op x y h) h
def negR (x : R) (h : Hh) : Out R := match x with
  | .d (.int i) => .ok (.d (.int (-i))) h
  | _ => .no
def kNeg (a : Den) : Den := fun en h => (a en h).bind negR
def blR (o : Option Bool) (h : Hh) : Out R := match o with
  | some b => .ok (.d (.bl b)) h
  | none => .no
def kNot (a : Den) : Den := fun en h => (a en h).bind fun x h => match truth h x with
  | some b => .ok (.d (.bl (!b))) h
  | none => .no
def kCmp (op : CmpOp) (a b : Den) : Den := fun en h => (a en h).bind fun x h => (b en h).bind fun y h => blR (cmpD op x y h) h
def kChain (o1 o2 : CmpOp) (a b c : Den) : Den := fun en h => (a en h).bind fun x h => (b en h).bind fun y h => match cmpD o1 x y h with
  | some true => (c en h).bind fun z h => blR (cmpD o2 y z h) h
  | some false => .ok (.d (.bl false)) h
  | none => .no
def kAnd (a b : Den) : Den := fun en h => (a en h).bind fun x h => match truth h x with
  | some true => b en h
  | some false => .ok x h
  | none => .no
def kOr (a b : Den) : Den := fun en h => (a en h).bind fun x h => match truth h x with
  | some false => b en h
  | some true => .ok x h
  | none => .no
def kIte (t a b : Den) : Den := fun en h => (t en h).bind fun x h => match truth h x with
  | some true => a en h
  | some false => b en h
  | none => .no
def dOut (o : Option D) (h : Hh) : Out R := match o with
  | some d => .ok (.d d) h
  | none => .no
def kIx (a b : Den) : Den := fun en h => (a en h).bind fun x h => (b en h).bind fun y h => dOut (ixD x y h) h
def kPart (b : Bool) (a : Den) : En → Hh → Out (Option Int) := fun en h => match b with
  | false => .ok none h
  | true => (a en h).bind fun r h => match r with
    | .d (.int i) => .ok (some i) h
    | _ => .no
def kDget (o k x : Den) : Den := fun en h => (o en h).bind fun d h => match viewK h d with
  | some _ => (k en h).bind fun y h => (x en h).bind fun z h => dOut (dgetD d y z h) h
  | none => .no
def kDnew : Den := fun _ h => .ok (.d (.ref h.length)) (h ++ [.dct false (.k []) []])
/-- t.index(x) of ints, x there -/
def tixD (x y : R) : Option R := match x, y with
  | .d (.xt ds), .d (.int i) => match intsD ds with
    | some ns => if ns.idxOf i < ns.length then some (.d (.int (ns.idxOf i : Nat))) else none
    | none => none
  | _, _ => none
def kTix (o x : Den) : Den := fun en h => (o en h).bind fun r h => match r with
  | .d (.xt _) => (x en h).bind fun y h => ofO (tixD r y) h
  | _ => .no
def kSl (b1 b2 : Bool) (a lo hi : Den) : Den := fun en h => (a en h).bind fun x h => (kPart b1 lo en h).bind fun l h => (kPart b2 hi en h).bind fun u h => ofO (slD x l u h) h
def kRev (a : Den) : Den := fun en h => (a en h).bind fun x h => ofO (revD x h) h
/-- a call: of values without lists of the heap it sees no heap -/
def callD (cl : Cl) (f : Nat) (ds : List D) (h : Hh) : Out R := match lowAll 0 ds with
  | true => match cl f ds [] with
    | .ok r [] => .ok r h
    | .er e [] => .er e h
    | _ => cl f ds h
  | false => cl f ds h
def kCall (cl : Cl) (f : Nat) (ps kws : DenL) (pm : List Nat) : Den := fun en h => (ps en h).bind fun xs h => (kws en h).bind fun ys h => match allO (pm.map fun i => (xs ++ ys)[i]?) with
  | some zs => callD cl f (zs.map R.toD) h
  | none => .no
def kBi (b : BI) (es : DenL) : Den := fun en h => (es en h).bind fun xs h => ofO (biD b xs h) h
def kMeth (m : ME) (o : Den) (es : DenL) : Den := fun en h => (o en h).bind fun x h => match viewL h x with
  | some _ => (es en h).bind fun xs h => methD m x xs h
  | none => .no
def kTurn (elt : Den) (tg : En → R → Hh → Out En) (ifs : En → Hh → Out Bool) (en : En) (d : D) (h : Hh) : Out (Option D) :=
  (tg en (.d d) h).bind fun en1 h => (ifs en1 h).bind fun ok h => match ok with
    | true => (elt en1 h).bind fun r h => .ok (some r.toD) h
    | false => .ok none h
def kLc (elt : Den) (tg : En → R → Hh → Out En) (it : En → Hh → Out Cur) (ifs : En → Hh → Out Bool) (own : List Nat) : Den := fun en h =>
  (it en h).bind fun c h => (lcLoop (kTurn elt tg ifs (wipeE en own)) FUEL c [] h).bind fun ds h => .ok (.fl ds) h
def alR (r : R) (h : Hh) : Out R := match r with
  | .fl ds => .ok (.d (.ref h.length)) (h ++ [.lst ds])
  | _ => .no
def kAl (e : Den) : Den := fun en h => (e en h).bind alR
def kNil : DenL := fun _ h => .ok [] h
def kCons (e : Den) (es : DenL) : DenL := fun en h => (e en h).bind fun r h => (es en h).bind fun rs h => .ok (r :: rs) h
def kYes : En → Hh → Out Bool := fun _ h => .ok true h
def kIf (e : Den) (es : En → Hh → Out Bool) : En → Hh → Out Bool := fun en h => (e en h).bind fun r h => match truth h r with
  | some true => es en h
  | some false => .ok false h
  | none => .no
abbrev DenT := En → R → Hh → Out En
abbrev DenTs := En → List D → Hh → Out En
def kNm (i : Nat) : DenT := fun en r h => if i < en.length then .ok (en.set i (some r.toD)) h else .no
def kTp (ts : DenTs) : DenT := fun en r h => match viewS h r with
  | some ds => ts en ds h
  | none => .no
def setAt (n : Nat) (y : R) (r : D) (en : En) (h : Hh) : Out En := match h[n]? with
  | some (.lst ds) => match y with
    | .d (.int k) => match L2.ixN ds.length k with
      | some j => if lowD n r then .ok en (h.set n (.lst (ds.set j r))) else .no
      | none => .no
    | _ => .no
  | some (.dct false (.k l) ds) => match keyK y with
    | some k => if lowD n r ∧ ds.length < sizeLine then .ok en (h.set n (.dct false (.k (putZ l ds k r).1) (putZ l ds k r).2)) else .no
    | none => .no
  | _ => .no
def sbOut (r : D) (en : En) (x y : R) (h : Hh) : Out En := match x with
  | .d (.ref n) => setAt n y r en h
  | _ => .no
def kSb (a i : Den) : DenT := fun en r h => (a en h).bind fun x h => (i en h).bind fun y h => sbOut r.toD en x y h
def kTnil : DenTs := fun en ds h => match ds with
  | [] => .ok en h
  | _ => .no
def kTcons (t : DenT) (ts : DenTs) : DenTs := fun en ds h => match ds with
  | d :: ds => (t en (.d d) h).bind fun en h => ts en ds h
  | [] => .no
abbrev DenI := En → Hh → Out Cur
def kIe (a : Den) : DenI := fun en h => (a en h).bind fun r h => ofO (curOf h r) h
def rg1R (r : R) (h : Hh) : Out Cur := match r with
  | .d (.int j) => if -(2 ^ 62) ≤ j ∧ j < 2 ^ 62 then .ok (.st (rng 0 j)) h else .no
  | _ => .no
def kRg1 (a : Den) : DenI := fun en h => (a en h).bind rg1R
def rg2R (r s : R) (h : Hh) : Out Cur := match r, s with
  | .d (.int i), .d (.int j) => if -(2 ^ 62) ≤ i ∧ i < 2 ^ 62 ∧ -(2 ^ 62) ≤ j ∧ j < 2 ^ 62 then .ok (.st (rng i j)) h else .no
  | _, _ => .no
def kRg2 (a b : Den) : DenI := fun en h => (a en h).bind fun r h => (b en h).bind fun s h => rg2R r s h
def enR (r : R) (h : Hh) : Out Cur := match curOf h r with
  | some c => .ok (.en 0 c) h
  | none => .no
def kEn (a : Den) : DenI := fun en h => (a en h).bind enR
def zpR (r s : R) (h : Hh) : Out Cur := match curOf h r, curOf h s with
  | some c, some d => .ok (.zp c d) h
  | _, _ => .no
def kZp (a b : Den) : DenI := fun en h => (a en h).bind fun r h => (b en h).bind fun s h => zpR r s h

section
variable (cl : Cl) (cs : List D)
mutual
def dE : E → Den
  | .v i => kV i
  | .c d => kC d
  | .g k => kG cs k
  | .tup es => kTup (dEs es)
  | .lst es => kLst (dEs es)
  | .bin op a b => kBin op (dE a) (dE b)
  | .neg a => kNeg (dE a)
  | .not a => kNot (dE a)
  | .cmp op a b => kCmp op (dE a) (dE b)
  | .chain o1 o2 a b c => kChain o1 o2 (dE a) (dE b) (dE c)
  | .and a b => kAnd (dE a) (dE b)
  | .or a b => kOr (dE a) (dE b)
  | .ite t a b => kIte (dE t) (dE a) (dE b)
  | .ix a b => kIx (dE a) (dE b)
  | .sl b1 b2 a lo hi => kSl b1 b2 (dE a) (dE lo) (dE hi)
  | .none => kC .non
  | .rev a => kRev (dE a)
  | .dnew => kDnew
  | .tix o x => kTix (dE o) (dE x)
  | .dget o k x => kDget (dE o) (dE k) (dE x)
  | .call f ps kws pm => kCall cl f (dEs ps) (dEs kws) pm
  | .bi b es => kBi b (dEs es)
  | .meth m o es => kMeth m (dE o) (dEs es)
  | .lc elt tg it ifs own => kLc (dE elt) (dT tg) (dI it) (dIf ifs) own
  | .al e => kAl (dE e)
def dEs : Es → DenL
  | .nil => kNil
  | .cons e es => kCons (dE e) (dEs es)
def dIf : Es → En → Hh → Out Bool
  | .nil => kYes
  | .cons e es => kIf (dE e) (dIf es)
def dT : T → DenT
  | .nm i => kNm i
  | .tp ts => kTp (dTs ts)
  | .sb a i => kSb (dE a) (dE i)
def dTs : Ts → DenTs
  | .nil => kTnil
  | .cons t ts => kTcons (dT t) (dTs ts)
def dI : I → DenI
  | .e a => kIe (dE a)
  | .rg1 a => kRg1 (dE a)
  | .rg2 a b => kRg2 (dE a) (dE b)
  | .en a => kEn (dE a)
  | .zp a b => kZp (dE a) (dE b)
end

abbrev DenS := En → Hh → Out Fl
def kAsg (t : DenT) (e : Den) : DenS := fun en h => (e en h).bind fun r h => (t en r h).bind fun en h => .ok (.nx en) h
def kExp (e : Den) : DenS := fun en h => (e en h).bind fun _ h => .ok (.nx en) h
def kRet (e : Den) : DenS := fun en h => (e en h).bind fun r h => .ok (.rt r) h
def kIteS (t : Den) (a b : DenS) : DenS := fun en h => (t en h).bind fun r h => match truth h r with
  | some true => a en h
  | some false => b en h
  | none => .no
def kFor (t : DenT) (it : DenI) (body : DenS) : DenS := fun en h => (it en h).bind fun c h => forLoop (fun d en h => (t en (.d d) h).bind fun en h => body en h) FUEL c en h
def kTest (t : Den) : En → Hh → Out Bool := fun en h => (t en h).bind fun r h => ofO (truth h r) h
def kWhile (t : Den) (body : DenS) : DenS := fun en h => whileLoop (kTest t) body FUEL en h
def kPass : DenS := fun en h => .ok (.nx en) h
def kRaise : DenS := fun _ _ => .no
def kSeq (a b : DenS) : DenS := fun en h => match a en h with
  | .ok (.nx en) h => b en h
  | .ok (.rt r) h => .ok (.rt r) h
  | .er e h => .er e h
  | .no => .no
mutual
def dS : S → DenS
  | .asg t e => kAsg (dT cl cs t) (dE cl cs e)
  | .exp e => kExp (dE cl cs e)
  | .ret e => kRet (dE cl cs e)
  | .ite t a b => kIteS (dE cl cs t) (dSs a) (dSs b)
  | .for t it body => kFor (dT cl cs t) (dI cl cs it) (dSs body)
  | .while t body => kWhile (dE cl cs t) (dSs body)
  | .pass => kPass
  | .raise => kRaise
def dSs : Ss → DenS
  | .nil => kPass
  | .cons s ss => kSeq (dS s) (dSs ss)
end
end

/-! ## functions -/
structure FD where
  name : Str
  ps : List Str
  N : List Str
  body : Ss
  fz : Bool

/-- lists made since the entry, for good -/
def frz (h : Hh) (n : Nat) : Nat → D → Option D
  | 0, _ => none
  | k + 1, d => match d with
    | .tup ds => match allO (ds.map (frz h n k)) with
      | some l => some (.tup l)
      | none => none
    | .lst ds => match allO (ds.map (frz h n k)) with
      | some l => some (.lst l)
      | none => none
    | .ref m => if m < n then some (.ref m) else match h[m]? with
      | some (.lst ds) => match allO (ds.map (frz h n k)) with
        | some l => some (.lst l)
        | none => none
      | some (.dct _ ks ds) => match allO (ds.map (frz h n k)) with
        | some l => some (.dct ks l)
        | none => none
      | none => none
    | .dct ks ds => match allO (ds.map (frz h n k)) with
      | some l => some (.dct ks l)
      | none => none
    | .xt ds => match allO (ds.map (frz h n k)) with
      | some l => some (.xt l)
      | none => none
    | d => some d
def frzR (h : Hh) (n : Nat) : R → Option R
  | .d x => (frz h n 40 x).map .d
  | .fl ds => (allO (ds.map (frz h n 40))).map .fl
def fin (n : Nat) (fz : Bool) (r : R) (h : Hh) : Out R :=
  match if fz then frzR h n r else some r with
  | some r => if lowR n r then .ok r (h.take n) else if fz then .no else .ok r h
  | none => .no

def runF (cs : List D) (fds : List FD) : Nat → Cl
  | 0, _, _, _ => .no
  | k + 1, f, ds, h => match fds[f]? with
    | none => .no
    | some fd => if ds.length = fd.ps.length ∧ fd.ps.length ≤ fd.N.length then
        match dSs (runF cs fds k) cs fd.body (ds.map some ++ List.replicate (fd.N.length - ds.length) none) h with
        | .ok (.nx _) h' => fin h.length fd.fz (.d .non) h'
        | .ok (.rt r) h' => fin h.length fd.fz r h'
        | .er e h' => .er e h'
        | .no => .no
      else .no
end MP
end

section
set_option Elab.async false
set_option linter.all false
set_option maxRecDepth 100000
set_option maxHeartbeats 4000000
namespace MP
open PySem L2 PyProof.Rows

/-! ## what stands for a value -/
abbrev Kf := PySem.W.Frag
def RT (K : Kf) (F : Hp) (β : List Addr) (a : Addr) (xs : List V) : Prop := (a ∉ β ∧ Rd F a (.tup xs)) ∨ SqT K (fun _ => none) a xs
def RL (K : Kf) (F : Hp) (β : List Addr) (a : Addr) (xs : List V) : Prop := a ∉ β ∧ Rd F a (.lst xs)
/-- a dict's object -/
def dob (ks : Ks) (vs : List V) : HO := match ks with
  | .k l => .dK (l.zip vs)
  | .t l => .dT (l.zip vs)
def klen : Ks → Nat
  | .k l => l.length
  | .t l => l.length
mutual
def VR (K : Kf) (F : Hp) (β : List Addr) : D → V → Prop
  | .non, v => v = .non
  | .bl b, v => v = .bl b
  | .int i, v => v = .int i
  | .str s, v => v = .str s
  | .rp p, v => v = .str p.shown
  | .tup ds, v => ∃ a vs, v = .ref a ∧ RT K F β a vs ∧ VRs K F β ds vs
  | .lst ds, v => ∃ a vs, v = .ref a ∧ RL K F β a vs ∧ VRs K F β ds vs
  | .ref n, v => ∃ a, β[n]? = some a ∧ v = .ref a
  | .dct ks ds, v => ∃ a vs, v = .ref a ∧ (a ∉ β ∧ Rd F a (dob ks vs)) ∧ klen ks = ds.length ∧ VRs K F β ds vs
  | .xt ds, v => ∃ a vs, v = .ref a ∧ (a ∉ β ∧ ∃ o : Obj, o.dict = none ∧ F a = some (.frz o (.tup vs))) ∧ VRs K F β ds vs
def VRs (K : Kf) (F : Hp) (β : List Addr) : List D → List V → Prop
  | [], vs => vs = []
  | d :: ds, vs => ∃ v r, vs = v :: r ∧ VR K F β d v ∧ VRs K F β ds r
end

section
variable {K : Kf} {F F' H H' : Hp} {β β' : List Addr}
theorem Rd.same {a : Addr} {u : HO} (s : Same F H) (r : Rd F a u) : Rd H a u := by
  rcases r with r | ⟨o, r⟩
  · exact .inl (s _ _ r)
  · exact .inr ⟨o, s _ _ r⟩
theorem RT.sq {a : Addr} {xs : List V} (s : Same F H) (r : RT K F β a xs) : SqT K H a xs := by
  rcases r with ⟨_, r⟩ | r
  · exact .inl (Rd.same s r)
  · rcases r with r | r
    · rcases r with r | ⟨o, r⟩ <;> cases r
    · exact .inr r
theorem RL.sq {a : Addr} {xs : List V} (s : Same F H) (r : RL K F β a xs) : SqL K H a xs := .inl (Rd.same s r.2)

/-- an extension: lists of the heap keep their places, all that is read is kept -/
structure Ext (F : Hp) (β : List Addr) (F' : Hp) (β' : List Addr) : Prop where
  pre : ∀ (n : Nat) a, β[n]? = some a → β'[n]? = some a
  fr : ∀ a o, F a = some o → a ∉ β → F' a = some o ∧ a ∉ β'
theorem Ext.rd {a : Addr} {u : HO} (e : Ext F β F' β') (n : a ∉ β) (r : Rd F a u) : a ∉ β' ∧ Rd F' a u := by
  rcases r with r | ⟨o, r⟩
  · exact ⟨(e.fr _ _ r n).2, .inl (e.fr _ _ r n).1⟩
  · exact ⟨(e.fr _ _ r n).2, .inr ⟨o, (e.fr _ _ r n).1⟩⟩
theorem RT.ext {a : Addr} {xs : List V} (e : Ext F β F' β') (r : RT K F β a xs) : RT K F' β' a xs := by
  rcases r with ⟨n, r⟩ | r
  · exact .inl (e.rd n r)
  · exact .inr r
theorem RL.ext {a : Addr} {xs : List V} (e : Ext F β F' β') (r : RL K F β a xs) : RL K F' β' a xs := e.rd r.1 r.2
mutual
theorem VR.ext (e : Ext F β F' β') : ∀ (d : D) (v : V), VR K F β d v → VR K F' β' d v
  | .non, _, h => h
  | .bl _, _, h => h
  | .int _, _, h => h
  | .str _, _, h => h
  | .rp _, _, h => h
  | .tup ds, _, ⟨a, vs, e1, r, q⟩ => ⟨a, vs, e1, r.ext e, VRs.ext e ds vs q⟩
  | .lst ds, _, ⟨a, vs, e1, r, q⟩ => ⟨a, vs, e1, r.ext e, VRs.ext e ds vs q⟩
  | .ref n, _, ⟨a, e1, e2⟩ => ⟨a, e.pre n a e1, e2⟩
  | .dct ks ds, _, ⟨a, vs, e1, r, z, q⟩ => ⟨a, vs, e1, e.rd r.1 r.2, z, VRs.ext e ds vs q⟩
  | .xt ds, _, ⟨a, vs, e1, ⟨n, o, d, f⟩, q⟩ => ⟨a, vs, e1, ⟨(e.fr _ _ f n).2, o, d, (e.fr _ _ f n).1⟩, VRs.ext e ds vs q⟩
theorem VRs.ext (e : Ext F β F' β') : ∀ (ds : List D) (vs : List V), VRs K F β ds vs → VRs K F' β' ds vs
  | [], _, h => h
  | d :: ds, _, ⟨v, r, e1, h1, h2⟩ => ⟨v, r, e1, VR.ext e d v h1, VRs.ext e ds r h2⟩
end
theorem VR.xt_tup {ds : List D} {v : V} (h : VR K F β (.xt ds) v) : VR K F β (.tup ds) v :=
  let ⟨a, vs, e, ⟨n, o, _, f⟩, w⟩ := h; ⟨a, vs, e, .inl ⟨n, .inr ⟨o, f⟩⟩, w⟩
theorem Ext.refl : Ext F β F β := ⟨fun _ _ h => h, fun _ _ h n => ⟨h, n⟩⟩
theorem Ext.trans {F2 : Hp} {β2 : List Addr} (a : Ext F β F' β') (b : Ext F' β' F2 β2) : Ext F β F2 β2 :=
  ⟨fun n x h => b.pre n x (a.pre n x h), fun x o h n => let ⟨h1, n1⟩ := a.fr x o h n; b.fr x o h1 n1⟩

/-! ### lists of values -/
theorem VRs.len : ∀ {ds : List D} {vs : List V}, VRs K F β ds vs → vs.length = ds.length
  | [], _, h => by cases h; rfl
  | d :: ds, _, ⟨v, r, e1, _, h2⟩ => by rw [e1, List.length_cons, List.length_cons, VRs.len h2]
theorem VRs.get : ∀ {ds : List D} {vs : List V} {i : Nat} {d : D}, VRs K F β ds vs → ds[i]? = some d → ∃ v, vs[i]? = some v ∧ VR K F β d v
  | [], _, _, _, _, h => by simp at h
  | d :: ds, _, 0, x, ⟨v, r, e1, h1, _⟩, h => by
    have h : d = x := by simpa using h
    subst h e1
    exact ⟨v, rfl, h1⟩
  | d :: ds, _, i + 1, x, ⟨v, r, e1, _, h2⟩, h => by
    subst e1
    exact VRs.get (i := i) h2 (by simpa using h)
theorem VRs.none_of {ds : List D} {vs : List V} {i : Nat} (h : VRs K F β ds vs) (e : ds[i]? = none) : vs[i]? = none := by
  rw [List.getElem?_eq_none_iff] at e ⊢
  rw [h.len]; exact e
theorem VRs.app : ∀ {ds es : List D} {vs ws : List V}, VRs K F β ds vs → VRs K F β es ws → VRs K F β (ds ++ es) (vs ++ ws)
  | [], _, _, _, h, q => by cases h; exact q
  | d :: ds, _, _, _, ⟨v, r, e1, h1, h2⟩, q => by subst e1; exact ⟨v, _, rfl, h1, VRs.app h2 q⟩
theorem VRs.one {d : D} {v : V} (h : VR K F β d v) : VRs K F β [d] [v] := ⟨v, [], rfl, h, rfl⟩
theorem VRs.drop : ∀ {ds : List D} {vs : List V} (n : Nat), VRs K F β ds vs → VRs K F β (ds.drop n) (vs.drop n)
  | _, _, 0, h => h
  | [], _, n + 1, h => by cases h; exact rfl
  | d :: ds, _, n + 1, ⟨v, r, e1, _, h2⟩ => by subst e1; exact VRs.drop n h2
theorem VRs.take : ∀ {ds : List D} {vs : List V} (n : Nat), VRs K F β ds vs → VRs K F β (ds.take n) (vs.take n)
  | _, _, 0, _ => rfl
  | [], _, n + 1, h => by cases h; exact rfl
  | d :: ds, _, n + 1, ⟨v, r, e1, h1, h2⟩ => by subst e1; exact ⟨v, _, rfl, h1, VRs.take n h2⟩
theorem VRs.rev : ∀ {ds : List D} {vs : List V}, VRs K F β ds vs → VRs K F β ds.reverse vs.reverse
  | [], _, h => by cases h; exact rfl
  | d :: ds, _, ⟨v, r, e1, h1, h2⟩ => by
    subst e1
    rw [List.reverse_cons, List.reverse_cons]
    exact VRs.app (VRs.rev h2) (VRs.one h1)
theorem VRs.set {d : D} {v : V} (q : VR K F β d v) : ∀ {ds : List D} {vs : List V} (i : Nat), VRs K F β ds vs → VRs K F β (ds.set i d) (vs.set i v)
  | [], _, _, h => by cases h; exact rfl
  | x :: ds, _, 0, ⟨w, r, e1, _, h2⟩ => by subst e1; exact ⟨v, r, rfl, q, h2⟩
  | x :: ds, _, i + 1, ⟨w, r, e1, h1, h2⟩ => by subst e1; exact ⟨w, _, rfl, h1, VRs.set q i h2⟩
theorem VRs.erase : ∀ {ds : List D} {vs : List V} (i : Nat), VRs K F β ds vs → VRs K F β (ds.eraseIdx i) (vs.eraseIdx i)
  | [], _, _, h => by cases h; exact rfl
  | x :: ds, _, 0, ⟨w, r, e1, _, h2⟩ => by subst e1; exact h2
  | x :: ds, _, i + 1, ⟨w, r, e1, h1, h2⟩ => by subst e1; exact ⟨w, _, rfl, h1, VRs.erase i h2⟩
theorem VRs.dropLast {ds : List D} {vs : List V} (h : VRs K F β ds vs) : VRs K F β ds.dropLast vs.dropLast := by
  rw [List.dropLast_eq_take, List.dropLast_eq_take, h.len]; exact h.take _
theorem VRs.rep {ds : List D} {vs : List V} (h : VRs K F β ds vs) : ∀ n : Nat, VRs K F β (List.replicate n ds).flatten (List.replicate n vs).flatten
  | 0 => rfl
  | n + 1 => by rw [List.replicate_succ, List.replicate_succ, List.flatten_cons, List.flatten_cons]; exact h.app (VRs.rep h n)
theorem VRs.intsD : ∀ {ds : List D} {vs : List V} {ns : List Int}, VRs K F β ds vs → intsD ds = some ns → vs = ns.map V.int
  | [], _, ns, h, e => by cases h; cases e; rfl
  | d :: ds, _, ns, ⟨v, r, e1, h1, h2⟩, e => by
    subst e1
    cases d with
    | int i =>
      unfold MP.intsD at e
      split at e
      · rename_i l hl
        cases e
        rw [VRs.intsD h2 hl, List.map_cons, show v = V.int i from h1]
      · cases e
    | _ => exact nomatch e
theorem VRs.of_ints : ∀ (ns : List Int), VRs K F β (ns.map D.int) (ns.map V.int)
  | [] => rfl
  | n :: ns => ⟨_, _, rfl, rfl, VRs.of_ints ns⟩
theorem VRs.boolsD : ∀ {ds : List D} {vs : List V} {ns : List Bool}, VRs K F β ds vs → boolsD ds = some ns → vs = ns.map V.bl
  | [], _, ns, h, e => by cases h; cases e; rfl
  | d :: ds, _, ns, ⟨v, r, e1, h1, h2⟩, e => by
    subst e1
    cases d with
    | bl i =>
      unfold MP.boolsD at e
      split at e
      · rename_i l hl
        cases e
        rw [VRs.boolsD h2 hl, List.map_cons, show v = V.bl i from h1]
      · cases e
    | _ => exact nomatch e
end

/-! ## worlds -/
def OR (K : Kf) (F : Hp) (β : List Addr) (n : Nat) (a : Addr) : O → Prop
  | .lst ds => ∃ vs, F a = some (.lst vs) ∧ VRs K F β ds vs ∧ lowAll n ds = true
  | .dct lk ks ds => ∃ vs, (match lk with
    | false => F a = some (dob ks vs)
    | true => ∃ o, F a = some (.frz o (dob ks vs))) ∧ VRs K F β ds vs ∧ lowAll n ds = true ∧ klen ks = ds.length
structure Good (K : Kf) (F : Hp) (β : List Addr) (h : Hh) : Prop where
  nd : β.Nodup
  len : β.length = h.length
  ob : ∀ (n : Nat) a o, β[n]? = some a → h[n]? = some o → OR K F β n a o
structure SimE (K : Kf) (F : Hp) (β : List Addr) (en : En) (σ : L2.St) : Prop where
  len : en.length = σ.length
  at_ : ∀ (i : Nat) (d : D), en[i]? = some (some d) → ∃ v, σ[i]? = some (some v) ∧ VR K F β d v
/-- a step of the worlds -/
structure Step (F : Hp) (β : List Addr) (H F' : Hp) (β' : List Addr) (H' : Hp) : Prop where
  gm : ∃ γ, β' = β ++ γ ∧ ∀ a ∈ γ, F a = none ∧ H a = none
  kp : ∀ a o, F a = some o → (∃ o', F' a = some o') ∧ (a ∉ β → F' a = some o)
  hid : ∀ a o, F a = none → H a = some o → F' a = none ∧ H' a = some o
section
variable {K : Kf} {F F' F2 H H' H2 : Hp} {β β' β2 : List Addr} {h : Hh} {en : En} {σ : L2.St}
theorem Step.ext (s : Step F β H F' β' H') : Ext F β F' β' := by
  obtain ⟨γ, e, f⟩ := s.gm
  refine ⟨fun n a q => ?_, fun a o q n => ⟨(s.kp a o q).2 n, fun z => ?_⟩⟩
  · rw [e, List.getElem?_append_left (List.getElem?_eq_some_iff.mp q).1]; exact q
  · rw [e] at z
    rcases List.mem_append.mp z with z | z
    · exact n z
    · rw [(f a z).1] at q; cases q
theorem Step.refl : Step F β H F β H := ⟨⟨[], by simp, fun _ h => by simp at h⟩, fun a o q => ⟨⟨o, q⟩, fun _ => q⟩, fun a o n q => ⟨n, q⟩⟩
theorem Step.trans (sm : Same F H) (s : Step F β H F' β' H') (t : Step F' β' H' F2 β2 H2) : Step F β H F2 β2 H2 := by
  obtain ⟨γ, e, f⟩ := s.gm
  obtain ⟨δ, e2, f2⟩ := t.gm
  refine ⟨⟨γ ++ δ, by rw [e2, e, List.append_assoc], fun a ha => ?_⟩, fun a o q => ?_, fun a o n q => ?_⟩
  · rcases List.mem_append.mp ha with z | z
    · exact f a z
    · obtain ⟨n1, n2⟩ := f2 a z
      have n3 : F a = none := by
        cases q : F a with
        | none => rfl
        | some o => obtain ⟨⟨o', q'⟩, _⟩ := s.kp a o q; rw [n1] at q'; cases q'
      refine ⟨n3, ?_⟩
      cases q : H a with
      | none => rfl
      | some o => have := (s.hid a o n3 q).2; rw [n2] at this; cases this
  · obtain ⟨⟨o', q'⟩, k⟩ := s.kp a o q
    obtain ⟨⟨o2, q2⟩, k2⟩ := t.kp a o' q'
    refine ⟨⟨o2, q2⟩, fun n => ?_⟩
    have q1 := k n
    refine (t.kp a o q1).2 fun z => ?_
    rw [e] at z
    rcases List.mem_append.mp z with z | z
    · exact n z
    · rw [(f a z).1] at q; cases q
  · obtain ⟨n1, q1⟩ := s.hid a o n q
    exact t.hid a o n1 q1
theorem SimE.ext (e : Ext F β F' β') (s : SimE K F β en σ) : SimE K F' β' en σ := ⟨s.len, fun i d q => let ⟨v, q1, r⟩ := s.at_ i d q; ⟨v, q1, VR.ext e d v r⟩⟩
/-- an address that is read is none of the heap's lists -/
theorem OR.known {n : Nat} {a : Addr} {o : O} (r : OR K F β n a o) : ∃ u, F a = some u := by
  cases o with
  | lst ds => obtain ⟨vs, f, _⟩ := r; exact ⟨_, f⟩
  | dct lk ks ds =>
    obtain ⟨vs, f, _⟩ := r
    cases lk with
    | false => exact ⟨_, f⟩
    | true => obtain ⟨o, f⟩ := f; exact ⟨_, f⟩
theorem Good.mem (g : Good K F β h) {a : Addr} (m : a ∈ β) : ∃ (n : Nat) (u : HO) (o : O), β[n]? = some a ∧ h[n]? = some o ∧ F a = some u ∧ OR K F β n a o := by
  obtain ⟨n, hn, e⟩ := List.getElem_of_mem m
  have q : β[n]? = some a := by rw [List.getElem?_eq_getElem hn, e]
  have hn' : n < h.length := by rw [← g.len]; exact hn
  have r := g.ob n a h[n] q (List.getElem?_eq_getElem hn')
  obtain ⟨u, f⟩ := OR.known r
  exact ⟨n, u, _, q, List.getElem?_eq_getElem hn', f, r⟩
/-- an object of the heap, all that is read is kept -/
theorem OR.more {n : Nat} {a : Addr} {o : O} (x : Ext F β F' β') (k : ∀ u, F a = some u → F' a = some u) (r : OR K F β n a o) : OR K F' β' n a o := by
  cases o with
  | lst ds => obtain ⟨vs, f, v, l⟩ := r; exact ⟨vs, k _ f, VRs.ext x ds vs v, l⟩
  | dct lk ks ds =>
    obtain ⟨vs, f, v, l⟩ := r
    refine ⟨vs, ?_, VRs.ext x ds vs v, l⟩
    cases lk with
    | false => exact k _ f
    | true => obtain ⟨o, f⟩ := f; exact ⟨o, k _ f⟩
theorem Good.at_ (g : Good K F β h) {n : Nat} {a : Addr} {ds : List D} (q : β[n]? = some a) (e : h[n]? = some (.lst ds)) : ∃ vs, F a = some (.lst vs) ∧ VRs K F β ds vs ∧ lowAll n ds = true := g.ob n a _ q e
theorem Good.addr (g : Good K F β h) {n : Nat} {o : O} (e : h[n]? = some o) : ∃ a, β[n]? = some a := by
  have : n < β.length := by rw [g.len]; exact (List.getElem?_eq_some_iff.mp e).1
  exact ⟨β[n], List.getElem?_eq_getElem this⟩
/-- more is known, the lists of the heap as they were -/
theorem Good.more (g : Good K F β h) (s : Same F F') : Good K F' β h := ⟨g.nd, g.len, fun n a o q e => by
  exact OR.more (F' := F') ⟨fun _ _ z => z, fun a o z m => ⟨s a o z, m⟩⟩ (fun u z => s a u z) (g.ob n a o q e)⟩
end

/-! ## results -/
def RV (K : Kf) (F : Hp) (β : List Addr) (H : Hp) : R → V → Prop
  | .d d, v => VR K F β d v
  | .fl ds, v => ∃ a vs, v = .ref a ∧ F a = none ∧ H a = some (.lst vs) ∧ VRs K F β ds vs
/-- .. made since H₀ -/
def RR (K : Kf) (F : Hp) (β : List Addr) (H₀ H : Hp) : R → V → Prop
  | .d d, v => VR K F β d v
  | .fl ds, v => ∃ a vs, v = .ref a ∧ H₀ a = none ∧ F a = none ∧ H a = some (.lst vs) ∧ VRs K F β ds vs
section
variable {K : Kf} {F F' F2 H H' H₀ H2 : Hp} {β β' β2 : List Addr} {h : Hh} {en : En} {σ : L2.St} {r : R} {v : V}
theorem RR.rv (h : RR K F β H₀ H r v) : RV K F β H r v := by
  cases r with
  | d x => exact h
  | fl ds => obtain ⟨a, vs, e, _, f, q, w⟩ := h; exact ⟨a, vs, e, f, q, w⟩
theorem RV.step (s : Step F β H F' β' H') (h : RV K F β H r v) : RV K F' β' H' r v := by
  cases r with
  | d x => exact VR.ext s.ext x v h
  | fl ds =>
    obtain ⟨a, vs, e, f, q, w⟩ := h
    obtain ⟨f', q'⟩ := s.hid a _ f q
    exact ⟨a, vs, e, f', q', VRs.ext s.ext ds vs w⟩
theorem RR.step (s : Step F β H F' β' H') (h : RR K F β H₀ H r v) : RR K F' β' H₀ H' r v := by
  cases r with
  | d x => exact VR.ext s.ext x v h
  | fl ds =>
    obtain ⟨a, vs, e, z, f, q, w⟩ := h
    obtain ⟨f', q'⟩ := s.hid a _ f q
    exact ⟨a, vs, e, z, f', q', VRs.ext s.ext ds vs w⟩
/-- made since an earlier heap -/
theorem RR.back {Fz Hz Hy : Hp} {βz βy : List Addr} {Fy : Hp} (sm : Same Fz Hz) (s : Step Fz βz Hz Fy βy Hy) (h : RR K F β Hy H r v) (smy : Same Fy Hy) : RR K F β Hz H r v := by
  cases r with
  | d x => exact h
  | fl ds =>
    obtain ⟨a, vs, e, z, f, q, w⟩ := h
    refine ⟨a, vs, e, ?_, f, q, w⟩
    cases hz : Hz a with
    | none => rfl
    | some o =>
      cases fz : Fz a with
      | none => have := (s.hid a o fz hz).2; rw [z] at this; cases this
      | some o2 => obtain ⟨⟨o3, q3⟩, _⟩ := s.kp a o2 fz; have := smy _ _ q3; rw [z] at this; cases this
end

/-! ## readings -/
def PostE (K : Kf) (F : Hp) (β : List Addr) (H : Hp) (o : Out R) (Q : VK) : Prop := match o with
  | .ok r h' => ∀ v F' β' H', Same F' H' → Step F β H F' β' H' → Good K F' β' h' → RR K F' β' H H' r v → Q v H'
  | _ => False
def tD (K : Kf) (d : Den) : TE := fun σ H Q => ∃ F β h en, Same F H ∧ Good K F β h ∧ SimE K F β en σ ∧ PostE K F β H (d en h) Q
/-- several; the new lists among them stand apart -/
def RRs (K : Kf) (F : Hp) (β : List Addr) (H₀ H : Hp) : List R → List V → Prop
  | [], vs => vs = []
  | r :: rs, vs => ∃ v ws, vs = v :: ws ∧ RR K F β H₀ H r v ∧ RRs K F β H₀ H rs ws
def flA : List R → List V → List Addr
  | .fl _ :: rs, .ref a :: vs => a :: flA rs vs
  | _ :: rs, _ :: vs => flA rs vs
  | _, _ => []
def PostL (K : Kf) (F : Hp) (β : List Addr) (H : Hp) (o : Out (List R)) (Q : List V → Hp → Prop) : Prop := match o with
  | .ok rs h' => ∀ vs F' β' H', Same F' H' → Step F β H F' β' H' → Good K F' β' h' → RRs K F' β' H H' rs vs → (flA rs vs).Nodup → Q vs H'
  | _ => False
def tL (K : Kf) (d : DenL) : TA := fun σ H Q => ∃ F β h en, Same F H ∧ Good K F β h ∧ SimE K F β en σ ∧ PostL K F β H (d en h) Q
def PostB (K : Kf) (F : Hp) (β : List Addr) (H : Hp) (o : Out Bool) (Q : Bool → Hp → Prop) : Prop := match o with
  | .ok b h' => ∀ F' β' H', Same F' H' → Step F β H F' β' H' → Good K F' β' h' → Q b H'
  | _ => False
def tT (K : Kf) (d : Den) : TT := fun σ H Q => ∃ F β h en, Same F H ∧ Good K F β h ∧ SimE K F β en σ ∧ PostB K F β H (kTest d en h) Q
end MP
end

section
set_option Elab.async false
set_option linter.all false
set_option maxRecDepth 100000
set_option maxHeartbeats 4000000
namespace MP
open PySem PySem.Spec L2 PyProof.Rows

/-! ## steps that add objects alone -/
structure PStep (F H F' H' : Hp) : Prop where
  ff : Same F F'
  hh : Same H H'
  sm : Same F' H'
  nw : ∀ a o, F a = none → H a = some o → F' a = none
section
variable {K : Kf} {F F' F1 F2 H H' H₀ H1 H2 : Hp} {β β' β1 β2 : List Addr} {h h1 : Hh} {en : En} {σ : L2.St} {r : R} {v : V}
theorem PStep.refl (sm : Same F H) : PStep F H F H := ⟨Same.refl _, Same.refl _, sm, fun _ _ n _ => n⟩
theorem PStep.step (p : PStep F H F' H') : Step F β H F' β H' :=
  ⟨⟨[], by simp, fun _ z => by simp at z⟩, fun a o q => ⟨⟨o, p.ff a o q⟩, fun _ => p.ff a o q⟩, fun a o n q => ⟨p.nw a o n q, p.hh a o q⟩⟩
theorem sm_new {p : Addr} {o : HO} (n : F p = none) : Same F (upd F p o) := fun a x q => by
  rw [upd_ne (ne_of_none q n)]; exact q
theorem sm_none (sm : Same F H) {p : Addr} (n : H p = none) : F p = none := by
  cases q : F p with
  | none => rfl
  | some o => have := sm p o q; rw [n] at this; cases this
theorem sm_upd (sm : Same F H) {p : Addr} {o : HO} : Same (upd F p o) (upd H p o) := fun a x q => by
  by_cases e : a = p
  · subst e; rw [upd_same] at q ⊢; exact q
  · rw [upd_ne e] at q ⊢; exact sm a x q
/-- a new object, known -/
theorem PStep.known (sm : Same F H) {p : Addr} {o : HO} (n : H p = none) : PStep F H (upd F p o) (upd H p o) :=
  ⟨sm_new (sm_none sm n), sm_new n, sm_upd sm, fun a x f q => by rw [upd_ne (ne_of_none q n)]; exact f⟩
/-- a new object, not known -/
theorem PStep.hidden (sm : Same F H) {p : Addr} {o : HO} (n : H p = none) : PStep F H F (upd H p o) :=
  ⟨Same.refl _, sm_new n, fun a x q => by rw [upd_ne (ne_of_none (sm a x q) n)]; exact sm a x q, fun _ _ f _ => f⟩
theorem PStep.extb (p : PStep F H F' H') : Ext F β F' β := ⟨fun _ _ q => q, fun a o q n => ⟨p.ff a o q, n⟩⟩

theorem PostE.shift {o : Out R} {Q : VK} (sm : Same F H) (s : Step F β H F1 β1 H1) (sm1 : Same F1 H1) (p : PostE K F β H o Q) : PostE K F1 β1 H1 o Q := by
  cases o with
  | ok r h' => exact fun v F' β' H' sm' s' g' rr => p v F' β' H' sm' (Step.trans sm s s') g' (rr.back sm s sm1)
  | er e h => exact p
  | no => exact p
theorem PostB.shift {o : Out Bool} {Q : Bool → Hp → Prop} (sm : Same F H) (s : Step F β H F1 β1 H1) (p : PostB K F β H o Q) : PostB K F1 β1 H1 o Q := by
  cases o with
  | ok r h' => exact fun F' β' H' sm' s' g' => p F' β' H' sm' (Step.trans sm s s') g'
  | er e h => exact p
  | no => exact p
theorem RRs.back {Fz Hz Hy : Hp} {βz βy : List Addr} {Fy : Hp} (sm : Same Fz Hz) (s : Step Fz βz Hz Fy βy Hy) (smy : Same Fy Hy) : ∀ {rs : List R} {vs : List V}, RRs K F β Hy H rs vs → RRs K F β Hz H rs vs
  | [], _, q => q
  | _ :: _, _, ⟨w, ws, e, q1, q2⟩ => ⟨w, ws, e, q1.back sm s smy, RRs.back sm s smy q2⟩
theorem PostL.shift {o : Out (List R)} {Q : List V → Hp → Prop} (sm : Same F H) (s : Step F β H F1 β1 H1) (sm1 : Same F1 H1) (p : PostL K F β H o Q) : PostL K F1 β1 H1 o Q := by
  cases o with
  | ok rs h' => exact fun v F' β' H' sm' s' g' rr nd => p v F' β' H' sm' (Step.trans sm s s') g' (rr.back sm s sm1) nd
  | er e h => exact p
  | no => exact p

/-- first a part, then the rest -/
theorem bind1 {α : Type} {a : Den} {f : R → Hh → Out α} {P : Hp → List Addr → Hp → Out α → Prop} {k : V → Hp → Prop} (sm : Same F H) (gd : Good K F β h) (se : SimE K F β en σ)
    (post : P F β H ((a en h).bind f)) (no : ¬ P F β H .no) (er : ∀ e h, ¬ P F β H (.er e h)) (sh : ∀ F1 β1 H1 o, Step F β H F1 β1 H1 → Same F1 H1 → P F β H o → P F1 β1 H1 o)
    (hk : ∀ r v F1 β1 H1 h1, Same F1 H1 → Step F β H F1 β1 H1 → Good K F1 β1 h1 → SimE K F1 β1 en σ → RR K F1 β1 H H1 r v → P F1 β1 H1 (f r h1) → k v H1) : tD K a σ H k := by
  refine ⟨F, β, h, en, sm, gd, se, ?_⟩
  cases ha : a en h with
  | ok r h1 =>
    rw [ha] at post
    exact fun v F1 β1 H1 sm1 s1 g1 rr => hk r v F1 β1 H1 h1 sm1 s1 g1 (se.ext s1.ext) rr (sh _ _ _ _ s1 sm1 post)
  | er e h1 => rw [ha] at post; exact absurd post (er e h1)
  | no => rw [ha] at post; exact absurd post no
theorem bindE {a : Den} {f : R → Hh → Out R} {Q : VK} {k : V → Hp → Prop} (sm : Same F H) (gd : Good K F β h) (se : SimE K F β en σ) (post : PostE K F β H ((a en h).bind f) Q)
    (hk : ∀ r v F1 β1 H1 h1, Same F1 H1 → Step F β H F1 β1 H1 → Good K F1 β1 h1 → SimE K F1 β1 en σ → RR K F1 β1 H H1 r v → PostE K F1 β1 H1 (f r h1) Q → k v H1) : tD K a σ H k :=
  bind1 (P := fun F β H o => PostE K F β H o Q) sm gd se post (fun z => z) (fun _ _ z => z) (fun _ _ _ _ s sm1 p => p.shift sm s sm1) hk
theorem bindB {a : Den} {f : R → Hh → Out Bool} {Q : Bool → Hp → Prop} {k : V → Hp → Prop} (sm : Same F H) (gd : Good K F β h) (se : SimE K F β en σ) (post : PostB K F β H ((a en h).bind f) Q)
    (hk : ∀ r v F1 β1 H1 h1, Same F1 H1 → Step F β H F1 β1 H1 → Good K F1 β1 h1 → SimE K F1 β1 en σ → RR K F1 β1 H H1 r v → PostB K F1 β1 H1 (f r h1) Q → k v H1) : tD K a σ H k :=
  bind1 (P := fun F β H o => PostB K F β H o Q) sm gd se post (fun z => z) (fun _ _ z => z) (fun _ _ _ _ s _ p => p.shift sm s) hk
theorem bindL1 {a : Den} {f : R → Hh → Out (List R)} {Q : List V → Hp → Prop} {k : V → Hp → Prop} (sm : Same F H) (gd : Good K F β h) (se : SimE K F β en σ) (post : PostL K F β H ((a en h).bind f) Q)
    (hk : ∀ r v F1 β1 H1 h1, Same F1 H1 → Step F β H F1 β1 H1 → Good K F1 β1 h1 → SimE K F1 β1 en σ → RR K F1 β1 H H1 r v → PostL K F1 β1 H1 (f r h1) Q → k v H1) : tD K a σ H k :=
  bind1 (P := fun F β H o => PostL K F β H o Q) sm gd se post (fun z => z) (fun _ _ z => z) (fun _ _ _ _ s sm1 p => p.shift sm s sm1) hk
/-- .. an argument list -/
theorem RRs.step (s : Step F β H F' β' H') : ∀ {rs : List R} {vs : List V}, RRs K F β H₀ H rs vs → RRs K F' β' H₀ H' rs vs
  | [], _, q => q
  | _ :: _, _, ⟨w, ws, e, q1, q2⟩ => ⟨w, ws, e, q1.step s, RRs.step s q2⟩
theorem bindLE {a : DenL} {f : List R → Hh → Out R} {Q : VK} {k : List V → Hp → Prop} (sm : Same F H) (gd : Good K F β h) (se : SimE K F β en σ) (post : PostE K F β H ((a en h).bind f) Q)
    (hk : ∀ rs vs F1 β1 H1 h1, Same F1 H1 → Step F β H F1 β1 H1 → Good K F1 β1 h1 → SimE K F1 β1 en σ → RRs K F1 β1 H H1 rs vs → (flA rs vs).Nodup → PostE K F1 β1 H1 (f rs h1) Q → k vs H1) : tL K a σ H k := by
  refine ⟨F, β, h, en, sm, gd, se, ?_⟩
  cases ha : a en h with
  | ok r h1 =>
    rw [ha] at post
    exact fun v F1 β1 H1 sm1 s1 g1 rr nd => hk r v F1 β1 H1 h1 sm1 s1 g1 (se.ext s1.ext) rr nd (PostE.shift sm s1 sm1 post)
  | er e h1 => rw [ha] at post; exact post
  | no => rw [ha] at post; exact post
end

/-! ## a new list becomes a value -/
section
variable {K : Kf} {F F0 H H₀ : Hp} {β β0 : List Addr} {h : Hh}
theorem flA_none : ∀ {rs : List R} {vs : List V}, RRs K F β H₀ H rs vs → ∀ a ∈ flA rs vs, H₀ a = none ∧ F a = none
  | [], _, q, a, m => by cases q; exact nomatch m
  | .d x :: rs, _, ⟨w, ws, e, _, q2⟩, a, m => by
    subst e
    have m : a ∈ flA rs ws := m
    exact flA_none q2 a m
  | .fl ds :: rs, _, ⟨w, ws, e, q1, q2⟩, a, m => by
    subst e
    obtain ⟨b, vs, rfl, n, f, _⟩ := q1
    rcases List.mem_cons.mp (show a ∈ b :: flA rs ws from m) with z | z
    · subst z; exact ⟨n, f⟩
    · exact flA_none q2 a z
/-- one more list is known -/
theorem know (sm0 : Same F0 H₀) (st : Step F0 β0 H₀ F β H) (sm : Same F H) (gd : Good K F β h) {a : Addr} {vs : List V} (n : H₀ a = none) (f : F a = none) (q : H a = some (.lst vs)) :
    Same F (upd F a (.lst vs)) ∧ Same (upd F a (.lst vs)) H ∧ Step F0 β0 H₀ (upd F a (.lst vs)) β H ∧ a ∉ β ∧ Ext F β (upd F a (.lst vs)) β := by
  have ff := sm_new (F := F) (o := .lst vs) f
  have na : a ∉ β := fun z => by obtain ⟨_, _, _, _, _, f', _⟩ := gd.mem z; rw [f] at f'; cases f'
  refine ⟨ff, fun b o z => ?_, ⟨st.gm, fun b o z => ?_, fun b o z w => ?_⟩, na, ⟨fun _ _ z => z, fun b o z m => ⟨ff b o z, m⟩⟩⟩
  · by_cases hb : b = a
    · subst hb; rw [upd_same] at z; cases z; exact q
    · rw [upd_ne hb] at z; exact sm b o z
  · obtain ⟨⟨o', z'⟩, k⟩ := st.kp b o z
    exact ⟨⟨o', ff b o' z'⟩, fun m => ff b o (k m)⟩
  · obtain ⟨z1, z2⟩ := st.hid b o z w
    refine ⟨?_, z2⟩
    rw [upd_ne (fun e => by rw [e, n] at w; cases w)]
    exact z1
theorem freeze1 (sm0 : Same F0 H₀) (st : Step F0 β0 H₀ F β H) (sm : Same F H) (gd : Good K F β h) {r : R} {v : V} (rr : RR K F β H₀ H r v) :
    ∃ F', Same F F' ∧ Same F' H ∧ Step F0 β0 H₀ F' β H ∧ VR K F' β r.toD v ∧ ∀ a, F a = none → a ∉ flA [r] [v] → F' a = none := by
  cases r with
  | d x => exact ⟨F, Same.refl _, sm, st, rr, fun _ z _ => z⟩
  | fl ds =>
    obtain ⟨a, vs, rfl, n, f, q, w⟩ := rr
    obtain ⟨k1, k2, k3, na, x⟩ := know sm0 st sm gd n f q
    refine ⟨_, k1, k2, k3, ⟨a, vs, rfl, ⟨na, .inl upd_same⟩, VRs.ext x ds vs w⟩, fun b z m => ?_⟩
    rw [upd_ne (fun e => m (by rw [e]; exact List.mem_cons_self))]
    exact z
theorem RRs.know {F' : Hp} (x : Ext F β F' β) : ∀ {rs : List R} {vs : List V}, (∀ a ∈ flA rs vs, F' a = none) → RRs K F β H₀ H rs vs → RRs K F' β H₀ H rs vs
  | [], _, _, q => q
  | .d y :: rs, _, m, ⟨w, ws, e, q1, q2⟩ => by
    subst e
    exact ⟨w, ws, rfl, VR.ext x y w q1, RRs.know x (fun a z => m a z) q2⟩
  | .fl ds :: rs, _, m, ⟨w, ws, e, q1, q2⟩ => by
    subst e
    obtain ⟨b, vs, rfl, n, f, q, w⟩ := q1
    exact ⟨_, ws, rfl, ⟨b, vs, rfl, n, m b (List.mem_cons_self), q, VRs.ext x ds vs w⟩, RRs.know x (fun a z => m a (List.mem_cons_of_mem _ z)) q2⟩
theorem freezeAll (sm0 : Same F0 H₀) : ∀ {rs : List R} {vs : List V} {F : Hp}, Step F0 β0 H₀ F β H → Same F H → Good K F β h → RRs K F β H₀ H rs vs → (flA rs vs).Nodup →
    ∃ F', Same F F' ∧ Same F' H ∧ Step F0 β0 H₀ F' β H ∧ VRs K F' β (rs.map R.toD) vs
  | [], _, F, st, sm, gd, q, _ => by cases q; exact ⟨F, Same.refl _, sm, st, rfl⟩
  | r :: rs, _, F, st, sm, gd, ⟨w, ws, e, q1, q2⟩, nd => by
    subst e
    obtain ⟨F1, k1, k2, k3, k4, k5⟩ := freeze1 sm0 st sm gd q1
    have x : Ext F β F1 β := ⟨fun _ _ z => z, fun a o z m => ⟨k1 a o z, m⟩⟩
    have nd2 : (flA rs ws).Nodup ∧ ∀ a ∈ flA rs ws, a ∉ flA [r] [w] := by
      cases r with
      | d y => exact ⟨nd, fun a _ z => nomatch z⟩
      | fl ds =>
        obtain ⟨b, vs, rfl, _⟩ := q1
        have nd : (b :: flA rs ws).Nodup := nd
        rw [List.nodup_cons] at nd
        refine ⟨nd.2, fun a m z => ?_⟩
        have : a = b := by simpa [flA] using z
        subst this
        exact nd.1 m
    obtain ⟨F2, j1, j2, j3, j4⟩ := freezeAll sm0 (F := F1) k3 k2 (gd.more k1) (q2.know x fun a m => k5 a (flA_none q2 a m).2 (nd2.2 a m)) nd2.1
    exact ⟨F2, k1.trans j1, j2, j3, ⟨w, ws, rfl, VR.ext ⟨fun _ _ z => z, fun a o z m => ⟨j1 a o z, m⟩⟩ _ _ k4, j4⟩⟩
end

/-! ## operators by values -/
def rOp2 (K : Kf) (f : Op2) : R2 := fun x y H Q => ∃ F β h rx ry r, Same F H ∧ Good K F β h ∧ RV K F β H rx x ∧ RV K F β H ry y ∧ f rx ry h = some r ∧
  ∀ v F' H', PStep F H F' H' → RR K F' β H H' r v → Q v H'
def rCmp2 (K : Kf) (f : R → R → Hh → Option Bool) : R2 := fun x y H Q => ∃ F β h rx ry b, Same F H ∧ Good K F β h ∧ RV K F β H rx x ∧ RV K F β H ry y ∧ f rx ry h = some b ∧ Q (.bl b) H
def rOp1 (K : Kf) (f : List R → Hh → Option R) : List V → Hp → VK → Prop := fun vs H Q => ∃ F β h rs H₀ r, Same F H ∧ Good K F β h ∧ RRs K F β H₀ H rs vs ∧ f rs h = some r ∧
  ∀ v F' H', PStep F H F' H' → RR K F' β H H' r v → Q v H'

section
variable {X : Cx} {pins : List (Addr × Obj)} {s : Shared} {σ : L2.St} {F H : Hp} {β : List Addr} {h : Hh} {a : Addr} {xs : List V} {ds : List D} {r : R} {v : V}
/-- a list that is read -/
theorem lst_obj (I : Inv X pins σ H s) (q : Rd H a (.lst xs)) : xs.length ≤ sizeLine ∧ ∃ (its : List Value) (n : Nat), Vals xs its ∧ xs.length = its.length ∧ s.heap.get? a = some { cls := .type "list", data := .seq its.toArray n } := by
  obtain ⟨z, its, n, r, e⟩ := q.ok I.hok
  exact ⟨z, its, n, r, r.length, e⟩
theorem viewL_of {K : Kf} (sm : Same F H) (gd : Good K F β h) (rv : RV K F β H r v) (e : viewL h r = some ds) : ∃ a vs, v = .ref a ∧ Rd H a (.lst vs) ∧ VRs K F β ds vs := by
  cases r with
  | fl l => cases e; obtain ⟨a, vs, e, _, q, w⟩ := rv; exact ⟨a, vs, e, .inl q, w⟩
  | d x =>
    cases x with
    | lst l =>
      cases e
      obtain ⟨a, vs, e, q, w⟩ := rv
      exact ⟨a, vs, e, Rd.same sm q.2, w⟩
    | ref n =>
      obtain ⟨a, q, e2⟩ := rv
      have e : (match h[n]? with
        | some (.lst ds) => some ds
        | _ => none) = some ds := e
      split at e
      · rename_i l hl
        cases e
        obtain ⟨vs, f, w, _⟩ := gd.at_ q hl
        exact ⟨a, vs, e2, .inl (sm _ _ f), w⟩
      · cases e
    | _ => exact nomatch e
theorem viewT_of {K : Kf} (sm : Same F H) (rv : RV K F β H r v) (e : viewT r = some ds) : ∃ a vs, v = .ref a ∧ SqT K H a vs ∧ RT K F β a vs ∧ VRs K F β ds vs := by
  cases r with
  | fl l => exact nomatch e
  | d x =>
    cases x with
    | tup l =>
      cases e
      obtain ⟨a, vs, e, q, w⟩ := rv
      exact ⟨a, vs, e, q.sq sm, q, w⟩
    | xt l =>
      cases e
      obtain ⟨a, vs, e, q, w⟩ := VR.xt_tup rv
      exact ⟨a, vs, e, q.sq sm, q, w⟩
    | _ => exact nomatch e
theorem viewS_of {K : Kf} (sm : Same F H) (gd : Good K F β h) (rv : RV K F β H r v) (e : viewS h r = some ds) : ∃ a vs, v = .ref a ∧ (SqL K H a vs ∨ SqT K H a vs) ∧ VRs K F β ds vs := by
  unfold viewS at e
  split at e
  · rename_i l hl
    cases e
    obtain ⟨a, vs, e, q, _, w⟩ := viewT_of (K := K) sm rv hl
    exact ⟨a, vs, e, .inr q, w⟩
  · obtain ⟨a, vs, e, q, w⟩ := viewL_of sm gd rv e
    exact ⟨a, vs, e, .inl (.inl q), w⟩
/-- a new tuple, a new list as an answer -/
theorem new_tup {K : Kf} {vs : List V} {Q : VK} (sm : Same F H) (gd : Good K F β h) (w : VRs K F β ds vs) (q : ∀ v F' H', PStep F H F' H' → RR K F' β H H' (.d (.tup ds)) v → Q v H') : ∀ p, H p = none → Q (.ref p) (upd H p (.tup vs)) := fun p n => by
  have ps := PStep.known (o := .tup vs) sm n
  refine q _ _ _ ps ⟨p, vs, rfl, .inl ⟨fun z => ?_, .inl upd_same⟩, VRs.ext ps.extb _ _ w⟩
  obtain ⟨_, vs', _, _, _, f, _⟩ := gd.mem z
  have := sm _ _ f
  rw [n] at this; cases this
theorem new_lst {K : Kf} {vs : List V} {Q : VK} (sm : Same F H) (w : VRs K F β ds vs) (q : ∀ v F' H', PStep F H F' H' → RR K F' β H H' (.fl ds) v → Q v H') : ∀ p, H p = none → Q (.ref p) (upd H p (.lst vs)) := fun p n =>
  q _ _ _ (PStep.hidden sm n) ⟨p, vs, rfl, n, sm_none sm n, upd_same, w⟩

/-! ### + - * // % ** & -/
theorem or_addL : OpR X (binaryOp .Add) (rOp2 X.K addL) := by
  intro pins s σ H x y v u Q I rx ry ⟨F, β, h, x', y', r, sm, gd, wx, wy, e, q⟩
  unfold addL at e
  split at e
  case h_2 => cases e
  rename_i a b ea eb
  split at e
  case isFalse => cases e
  rename_i hz
  cases e
  obtain ⟨l, xs, rfl, ql, w1⟩ := viewL_of sm gd wx ea
  obtain ⟨m, ys, rfl, qm, w2⟩ := viewL_of sm gd wy eb
  cases rx
  cases ry
  obtain ⟨z, its, n, r1, hl, e1⟩ := lst_obj I ql
  obtain ⟨z2, its2, n2, r2, hl2, e2⟩ := lst_obj I qm
  have hz : a.length + b.length ≤ sizeLine := of_decide_eq_true hz
  rw [← w1.len, ← w2.len] at hz
  refine PySem.P.add_list e1 e2 ?_ (by rw [List.size_toArray, List.size_toArray]; omega)
  have ea : its.toArray ++ its2.toArray = (its ++ its2).toArray := by simp
  rw [ea]
  exact ⟨.ref _, _, I.lnew (t' := s.toks) (r1.append r2) (by rw [List.length_append]; omega), rfl, new_lst sm (w1.app w2) q _ I.fresh⟩
theorem or_add : OpR X (binaryOp .Add) (rOp2 X.K addD) := by
  intro pins s σ H x y v u Q I rx ry ⟨F, β, h, x', y', r, sm, gd, wx, wy, e, q⟩
  unfold addD at e
  split at e
  · cases e
    exact op_add pins s σ H x y v u Q I rx ry ⟨_, _, wx, wy, q _ _ _ (.refl sm) rfl⟩
  · rename_i a b
    split at e
    case isFalse => cases e
    rename_i hz
    cases e
    obtain ⟨l, xs, rfl, ql, r1, w1⟩ := viewT_of (K := X.K) sm wx rfl
    obtain ⟨m, ys, rfl, qm, r2, w2⟩ := viewT_of (K := X.K) sm wy rfl
    have hz : a.length + b.length ≤ sizeLine := of_decide_eq_true hz
    rw [← w1.len, ← w2.len] at hz
    refine op_catA pins s σ H _ _ v u Q I rx ry ⟨l, m, xs, ys, rfl, rfl, ql, qm, hz, fun z => ?_, fun _ z => ?_, fun _ _ => new_tup sm gd (w1.app w2) q⟩
    · subst z
      have : a = [] := by have := w1.len; simp at this; exact List.length_eq_zero_iff.mp this.symm
      subst this
      exact q _ _ _ (.refl sm) ⟨m, ys, rfl, r2, w2⟩
    · subst z
      have : b = [] := by have := w2.len; simp at this; exact List.length_eq_zero_iff.mp this.symm
      subst this
      exact q _ _ _ (.refl sm) ⟨l, xs, rfl, r1, by rw [List.append_nil]; exact w1⟩
  · exact or_addL pins s σ H x y v u Q I rx ry ⟨F, β, h, _, _, r, sm, gd, wx, wy, e, q⟩
theorem or_sub : OpR X (binaryOp .Sub) (rOp2 X.K subD) := by
  intro pins s σ H x y v u Q I rx ry ⟨F, β, h, x', y', r, sm, gd, wx, wy, e, q⟩
  unfold subD at e
  split at e
  · cases e
    exact op_sub pins s σ H x y v u Q I rx ry ⟨_, _, wx, wy, q _ _ _ (.refl sm) rfl⟩
  · cases e
theorem or_fdiv : OpR X (binaryOp .FloorDiv) (rOp2 X.K fdivD) := by
  intro pins s σ H x y v u Q I rx ry ⟨F, β, h, x', y', r, sm, gd, wx, wy, e, q⟩
  unfold fdivD at e
  split at e
  · split at e
    · rename_i hc
      cases e
      exact op_fdivW pins s σ H x y v u Q I rx ry ⟨_, _, wx, wy, hc, q _ _ _ (.refl sm) rfl⟩
    split at e
    case isFalse => cases e
    rename_i hc
    cases e
    exact op_fdivN pins s σ H x y v u Q I rx ry ⟨_, _, wx, wy, ⟨by omega, hc.2⟩, q _ _ _ (.refl sm) rfl⟩
  · cases e
theorem or_mod : OpR X (binaryOp .Mod) (rOp2 X.K modD) := by
  intro pins s σ H x y v u Q I rx ry ⟨F, β, h, x', y', r, sm, gd, wx, wy, e, q⟩
  unfold modD at e
  split at e
  · split at e
    case isFalse => cases e
    rename_i hc
    cases e
    exact op_mod pins s σ H x y v u Q I rx ry ⟨_, _, wx, wy, hc, q _ _ _ (.refl sm) rfl⟩
  · cases e
theorem or_pow : OpR X (binaryOp .Pow) (rOp2 X.K powD) := by
  intro pins s σ H x y v u Q I rx ry ⟨F, β, h, x', y', r, sm, gd, wx, wy, e, q⟩
  unfold powD at e
  split at e
  · split at e
    case isFalse => cases e
    rename_i hc
    cases e
    exact op_pow pins s σ H x y v u Q I rx ry ⟨_, _, wx, wy, hc, q _ _ _ (.refl sm) rfl⟩
  · cases e
theorem or_band : OpR X (binaryOp .BitAnd) (rOp2 X.K bandD) := by
  intro pins s σ H x y v u Q I rx ry ⟨F, β, h, x', y', r, sm, gd, wx, wy, e, q⟩
  unfold bandD at e
  split at e
  · cases e
    exact op_and pins s σ H x y v u Q I rx ry ⟨_, _, wx, wy, q _ _ _ (.refl sm) rfl⟩
  · cases e
end
end MP
end

section
set_option Elab.async false
set_option linter.all false
set_option maxRecDepth 100000
set_option maxHeartbeats 4000000
namespace MP
open PySem PySem.Spec L2 PyProof.Rows
section
variable {X : Cx} {F H : Hp} {β : List Addr} {h : Hh}
theorem rep_flat (us : List Value) (m : Nat) : List.foldl (fun x1 x2 => x1 ++ x2) #[] (List.replicate (if us.toArray.isEmpty = true then 0 else m) us.toArray) = (List.replicate m us).flatten.toArray := by
  have f0 : ∀ m : Nat, List.foldl (fun x1 x2 => x1 ++ x2) #[] (List.replicate m us.toArray) = (List.replicate m us).flatten.toArray := fun m => by
    have z := foldl_rep us m []
    rw [List.nil_append] at z
    exact z
  rw [f0]
  cases us with
  | nil => simp
  | cons a r => rw [if_neg (by simp)]
theorem or_mulL {pins : List (Addr × Obj)} {s : Shared} {σ : L2.St} {l : Addr} {k : Int} {xs : List V} {v u : Value} {Q : VK} (I : Inv X pins σ H s) (hl : Rd H l (.lst xs)) (rx : RelV (.ref l) v) (ry : RelV (.int k) u)
    (h1 : -(2 ^ 63) ≤ k) (h2 : k < 2 ^ 63) (hz : xs.length * k.toNat ≤ sizeLine) (q : ∀ p, H p = none → Q (.ref p) (upd H p (.lst (List.replicate k.toNat xs).flatten))) :
    wpAny (model X.prog X.w) X.A (binaryOp .Mult v u) (EP X pins σ Q) X.xe s := by
  cases rx
  obtain ⟨t, rfl⟩ := ry
  obtain ⟨z, us, n, r, hn, e⟩ := lst_obj I hl
  have hlen : us.toArray.size * k.toNat ≤ sizeLine := by rw [List.size_toArray, ← hn]; exact hz
  have hcap : ¬ us.toArray.size * k.toNat > (2 ^ 63 - 1) / 8 := by
    have w : (sizeLine : Nat) ≤ (2 ^ 63 - 1) / 8 := by decide
    omega
  have hfit : ¬ (!Builtin.List.listFitsIndex k) = true := by rw [fitsIndex_both h1 h2]; decide
  have hlong : ¬ Builtin.List.listTooLong (us.toArray.size * k.toNat) = true := by rw [notLongL hlen]; decide
  have m2 := AutoListH.list___mul___list_int_3 l us.toArray n k t hfit hcap hlong
  rw [rep_flat] at m2
  refine wpAny_binaryOp_repeat_ref (T := "list") (U := "int") (by decide) ⟨_, e, rfl⟩ (fun s' => typeIs_int s' k t) noFill_list_mul F.fills_int_mul F.slot_int_rmul repeat_list F.slot_int_index.lookup
    (call_meets F.slot_int_rmul (typeIs_int s k t) F.entry_int_rmul (F.args_int_rmul_2 _ _) (int___rmul___int_list k t l us.toArray n) ⟨e, rfl, ⟨_, e, rfl⟩, ?_⟩)
  refine call_meets F.slot_list_mul ⟨_, e, rfl⟩ F.entry_list_mul (F.args_list_mul_2 _ _) m2 ⟨e, ?_⟩
  have lz : (List.replicate k.toNat xs).flatten.length ≤ sizeLine := by rw [PyProof.Rows.lm_len_rep_flat, Nat.mul_comm]; exact hz
  exact ⟨.ref _, _, I.lnew (t' := s.toks) (r.rep k.toNat) lz, rfl, q _ I.fresh⟩
theorem mulOk_ok {i j : Int} (h : mulOk i j = true) : IntMulOk i j := by
  unfold mulOk at h
  rw [Bool.or_eq_true, Bool.or_eq_true] at h
  rcases h with h | h | h
  · have h := Nat.blt_eq.mp h
    exact CMul.ok (.inl ⟨by omega, by omega⟩)
  · have h := Nat.blt_eq.mp h
    exact CMul.ok (.inr ⟨by omega, by omega⟩)
  · exact CMulW.ok (Nat.blt_eq.mp h)
theorem op_mulAny : OpR X (binaryOp .Mult) (rI (fun i j => mulOk i j = true) fun i j => .int (i * j)) := opI fun _ _ _ _ _ _ _ hc q => mul_int q (mulOk_ok hc)
theorem tuple_mul1 (l : Addr) (items : Array Value) (n : Nat) (dd : Option Addr) (sl : Array (Option Value)) (x : Int) (u : Tok) (c0 : (decide (x < -(2 ^ 63)) || decide (x ≥ 2 ^ 63)) = false) (c1 : (items.isEmpty || x == 1) = true) :
    Meets (Builtin.«tuple.__mul__» ⟨[.ref l, .int x u], []⟩) (fun _ R s => s.heap.get? l = some { cls := .type "tuple", dict := dd, data := .seq items n, slots := sl } ∧ R (.ok (.ret (Value.ref l))) s) :=
  .of_wp fun prog w A R s h => by
    obtain ⟨hp, g, d, tk, os⟩ := s
    obtain ⟨hl, h⟩ := h
    have f1 := AutoSeq1.idx_int
    wp_walk using AutoSeq1.wpAny_loadPart' hl
    repeat (first
      | (refine wpAny_ite_false (decide_eq_false (by rw [c0]; exact Bool.false_ne_true)) ?_; wp_walk using AutoSeq1.wpAny_loadPart' hl)
      | (refine wpAny_ite_true (decide_eq_true (by rw [c1])) ?_; wp_walk using AutoSeq1.wpAny_loadPart' hl))
    exact ⟨_, rfl, h⟩
/-- t * 1: t itself -/
theorem op_rep1 : OpR X (binaryOp .Mult) (fun x y H Q => ∃ l xs, x = .ref l ∧ y = .int 1 ∧ SqT X.K H l xs ∧ Q (.ref l) H) := by
  intro pins s σ H x y v u Q I rx ry h
  obtain ⟨l, xs, rfl, rfl, hT, q⟩ := h
  cases rx
  obtain ⟨t, rfl⟩ := ry
  obtain ⟨its, r, ⟨⟨cls, dd, data, sl⟩, ho, hc, n, hd⟩, hs⟩ := I.tuple hT
  simp only at hc hd
  subst hc hd
  have c1 : (its.toArray.isEmpty || (1 : Int) == 1) = true := by simp
  exact wpAny_binaryOp_repeat_ref (T := "tuple") (U := "int") (by decide) ⟨_, ho, rfl⟩ (fun s' => typeIs_int s' 1 t) noFill_tuple_mul F.fills_int_mul F.slot_int_rmul repeat_tuple F.slot_int_index.lookup
    (call_meets F.slot_int_rmul (typeIs_int s 1 t) F.entry_int_rmul (F.args_int_rmul_2 _ _) (int_rmul_tuple 1 t l its.toArray n dd sl)
      ⟨ho, rfl, ⟨_, ho, rfl⟩, call_meets F.slot_tuple_mul ⟨_, ho, rfl⟩ F.entry_tuple_mul (F.args_tuple_mul_2 _ _) (tuple_mul1 l its.toArray n dd sl 1 t (by decide) c1) ⟨ho, ⟨.ref l, H, I, rfl, q⟩⟩⟩)
theorem or_mul : OpR X (binaryOp .Mult) (rOp2 X.K mulD) := by
  intro pins s σ H x y v u Q I rx ry ⟨F, β, h, x', y', r, sm, gd, wx, wy, e, q⟩
  unfold mulD at e
  split at e
  · split at e
    case isFalse => cases e
    rename_i hc
    cases e
    exact op_mulAny pins s σ H x y v u Q I rx ry ⟨_, _, wx, wy, hc, q _ _ _ (.refl sm) rfl⟩
  · split at e
    · rename_i a k hk
      cases e
      obtain ⟨l, xs, rfl, ql, r1, w1⟩ := viewT_of (K := X.K) sm wx rfl
      cases (show y = .int k from wy)
      subst hk
      exact op_rep1 pins s σ H _ _ v u Q I rx ry ⟨l, xs, rfl, rfl, ql, q _ _ _ (.refl sm) ⟨l, xs, rfl, r1, w1⟩⟩
    split at e
    case isFalse => cases e
    rename_i a k _ hc
    cases e
    obtain ⟨l, xs, rfl, ql, r1, w1⟩ := viewT_of (K := X.K) sm wx rfl
    cases (show y = .int k from wy)
    obtain ⟨c1, c2, c3, c4⟩ := hc
    refine op_repT pins s σ H _ _ v u Q I rx ry ⟨l, k, xs, rfl, rfl, ql, fun z => ?_, c3, c4, by rw [w1.len]; exact c2, new_tup sm gd (w1.rep _) q⟩
    have := w1.len
    rw [z] at this
    simp at this
    omega
  · rename_i k _ _
    unfold mulL at e
    split at e
    case h_2 => cases e
    rename_i a ea
    split at e
    case isFalse => cases e
    rename_i hc
    cases e
    obtain ⟨l, xs, rfl, ql, w1⟩ := viewL_of sm gd wx ea
    cases (show y = .int k from wy)
    exact or_mulL I ql rx ry hc.1 hc.2.1 (by rw [w1.len]; exact hc.2.2) (new_lst sm (w1.rep _) q)
  · cases e
theorem or_no {f : Value → Value → Sem Value} : OpR X f (rOp2 X.K noD) := by
  intro pins s σ H x y v u Q I rx ry ⟨F, β, h, x', y', r, sm, gd, wx, wy, e, q⟩
  cases e
theorem or_bin : ∀ op, OpR X (binaryOp op) (rOp2 X.K (binD op))
  | .Add => or_add
  | .Sub => or_sub
  | .Mult => or_mul
  | .FloorDiv => or_fdiv
  | .Mod => or_mod
  | .Pow => or_pow
  | .BitAnd => or_band
  | .MatMult => or_no
  | .Div => or_no
  | .LShift => or_no
  | .RShift => or_no
  | .BitOr => or_no
  | .BitXor => or_no

/-! ### data -/
section
variable {K : Kf} {v : V}
theorem allO_cons {α : Type} {o : Option α} {l : List (Option α)} {ps : List α} (e : allO (o :: l) = some ps) : ∃ p qs, ps = p :: qs ∧ o = some p ∧ allO l = some qs := by
  cases o with
  | none => cases e
  | some a =>
    unfold allO at e
    split at e
    · rename_i qs hq
      cases e
      exact ⟨a, qs, rfl, rfl, hq⟩
    · cases e
theorem dp_of (sm : Same F H) (gd : Good K F β h) : ∀ (k : Nat) (d : D) (v : V) (p : PyData), VR K F β d v → py h k d = some p → Dp K H v p
  | 0, _, _, _, _, e => by cases e
  | k + 1, d, v, p, r, e => by
    have all : ∀ (ds : List D) (vs : List V) (ps : List PyData), VRs K F β ds vs → allO (ds.map (py h k)) = some ps → DpAll K H vs ps := by
      intro ds
      induction ds with
      | nil => intro vs ps w e; cases w; cases e; exact .nil
      | cons d ds ih =>
        intro vs ps ⟨w, ws, e1, r1, r2⟩ e
        obtain ⟨q, qs, rfl, e2, e3⟩ := allO_cons e
        subst e1
        exact .cons (dp_of sm gd k d w q r1 e2) (ih ws qs r2 e3)
    unfold py at e
    cases d with
    | non => cases e; cases r; exact .non
    | bl b => cases e; cases r; exact .bl b
    | int i => cases e; cases r; exact .int i
    | str x => cases e; cases r; exact .str x
    | rp q => cases e; cases r; exact .str _
    | tup ds =>
      obtain ⟨a, vs, rfl, q, w⟩ := r
      simp only at e
      split at e
      · rename_i l hl
        cases e
        exact .tup (q.sq sm) (all ds vs l w hl)
      · cases e
    | lst ds =>
      obtain ⟨a, vs, rfl, q, w⟩ := r
      simp only at e
      split at e
      · rename_i l hl
        cases e
        exact .lst (q.sq sm) (all ds vs l w hl)
      · cases e
    | ref n =>
      obtain ⟨a, q, rfl⟩ := r
      simp only at e
      split at e
      · rename_i ds hd
        obtain ⟨vs, f, w, _⟩ := gd.at_ q hd
        split at e
        · rename_i l hl
          cases e
          exact .lst (.inl (.inl (sm _ _ f))) (all ds vs l w hl)
        · cases e
      · cases e
    | dct ks ds => cases e
    | xt ds =>
      obtain ⟨a, vs, rfl, q, w⟩ := VR.xt_tup r
      simp only at e
      split at e
      · rename_i l hl
        cases e
        exact .tup (q.sq sm) (all ds vs l w hl)
      · cases e
theorem dp_R (sm : Same F H) (gd : Good K F β h) {r : R} {p : PyData} (rv : RV K F β H r v) (e : py h deep r.toD = some p) : Dp K H v p := by
  cases r with
  | d x => exact dp_of sm gd _ x v p rv e
  | fl ds =>
    obtain ⟨a, vs, rfl, n, q, w⟩ := rv
    -- the list itself as one more that is known
    have sm' : Same (upd F a (.lst vs)) H := fun b o z => by
      by_cases hb : b = a
      · subst hb; rw [upd_same] at z; cases z; exact q
      · rw [upd_ne hb] at z; exact sm b o z
    have f : Same F (upd F a (.lst vs)) := fun b o z => by rw [upd_ne (ne_of_none z n)]; exact z
    have na : a ∉ β := fun z => by obtain ⟨_, _, _, _, _, f, _⟩ := gd.mem z; rw [n] at f; cases f
    have x : Ext F β (upd F a (.lst vs)) β := ⟨fun _ _ z => z, fun b o z m => ⟨f b o z, m⟩⟩
    exact dp_of sm' (gd.more f) _ (.lst ds) _ p ⟨a, vs, rfl, ⟨na, .inl upd_same⟩, VRs.ext x ds vs w⟩ e
end

mutual
theorem same_eq : ∀ (p q : PyData), same p q = true → p = q
  | .none, q, e => by cases q <;> first | rfl | (simp [same] at e)
  | .bool b, q, e => by cases q <;> first | (simp [same] at e; rw [e]; done) | (simp [same] at e; done)
  | .int b, q, e => by cases q <;> first | (simp [same] at e; rw [e]; done) | (simp [same] at e; done)
  | .str b, q, e => by cases q <;> first | (simp [same] at e; rw [e]; done) | (simp [same] at e; done)
  | .list xs, q, e => by
    cases q with
    | list ys => rw [sames_eq xs ys (by simpa only [same] using e)]
    | _ => simp [same] at e
  | .tuple xs, q, e => by
    cases q with
    | tuple ys => rw [sames_eq xs ys (by simpa only [same] using e)]
    | _ => simp [same] at e
  | .dict xs, q, e => by cases q <;> simp [same] at e
theorem sames_eq : ∀ (p q : List PyData), sames p q = true → p = q
  | [], q, e => by cases q <;> first | rfl | (simp [sames] at e)
  | x :: xs, q, e => by
    cases q with
    | nil => simp [sames] at e
    | cons y ys =>
      simp only [sames, Bool.and_eq_true] at e
      rw [same_eq x y e.1, sames_eq xs ys e.2]
end

/-! ### comparisons -/
theorem oc_lt (hu : X.A.units < cLine) : OpR X (compareOp .Lt) (rCmp2 X.K ltD) := by
  intro pins s σ H x y v u Q I rx ry ⟨F, β, h, x', y', b, sm, gd, wx, wy, e, q⟩
  unfold ltD at e
  split at e
  · cases e; exact op_lt pins s σ H x y v u Q I rx ry ⟨_, _, wx, wy, q⟩
  · split at e
    · rename_i ns ms en em
      cases e
      obtain ⟨a1, v1, rfl, q1, _, w1⟩ := viewT_of (K := X.K) sm wx rfl
      obtain ⟨a2, v2, rfl, q2, _, w2⟩ := viewT_of (K := X.K) sm wy rfl
      cases VRs.intsD w1 en
      cases VRs.intsD w2 em
      exact op_ltT hu pins s σ H _ _ v u Q I rx ry ⟨a1, a2, ns, ms, rfl, rfl, q1, q2, q⟩
    · cases e
  · cases e
theorem oc_le : OpR X (compareOp .LtE) (rCmp2 X.K leD) := by
  intro pins s σ H x y v u Q I rx ry ⟨F, β, h, x', y', b, sm, gd, wx, wy, e, q⟩
  unfold leD at e
  split at e
  · cases e; exact op_le pins s σ H x y v u Q I rx ry ⟨_, _, wx, wy, q⟩
  · cases e
theorem oc_gt : OpR X (compareOp .Gt) (rCmp2 X.K gtD) := by
  intro pins s σ H x y v u Q I rx ry ⟨F, β, h, x', y', b, sm, gd, wx, wy, e, q⟩
  unfold gtD at e
  split at e
  · cases e; exact op_gt pins s σ H x y v u Q I rx ry ⟨_, _, wx, wy, q⟩
  · cases e
theorem oc_ge : OpR X (compareOp .GtE) (rCmp2 X.K geD) := by
  intro pins s σ H x y v u Q I rx ry ⟨F, β, h, x', y', b, sm, gd, wx, wy, e, q⟩
  unfold geD at e
  split at e
  · cases e; exact op_ge pins s σ H x y v u Q I rx ry ⟨_, _, wx, wy, q⟩
  · cases e
theorem oc_eq (hu : X.A.units + 64 < cLine) : OpR X (compareOp .Eq) (rCmp2 X.K eqD) := by
  intro pins s σ H x y v u Q I rx ry ⟨F, β, h, x', y', b, sm, gd, wx, wy, e, q⟩
  unfold eqD at e
  split at e
  · rename_i i j
    cases e
    cases (show x = .int i from wx)
    cases (show y = .int j from wy)
    refine op_eq pins s σ H _ _ v u Q I rx ry ⟨rfl, ?_⟩
    rw [dec_int, Bool.beq_eq_decide_eq]
    exact q
  · rename_i p p'
    cases e
    cases (show x = .str p.shown from wx)
    cases (show y = .str p'.shown from wy)
    refine op_eq pins s σ H _ _ v u Q I rx ry ⟨rfl, ?_⟩
    rw [dec_str]
    by_cases z : same p p' = true
    · rw [z, same_eq _ _ z] at q
      rw [same_eq _ _ z, beq_self_eq_true]
      simpa using q
    · have z : same p p' = false := by simpa using z
      rw [z, Bool.false_or] at q
      exact q
  · split at e
    · rename_i pa pb ea eb
      split at e
      · rename_i hs
        cases e
        obtain ⟨s1, s2⟩ := Bool.and_eq_true_iff.mp hs
        exact op_eqD hu pins s σ H x y v u Q I rx ry ⟨pa, pb, dp_R sm gd wx ea, dp_R sm gd wy eb, s1, s2, q⟩
      · cases e
    · cases e
theorem oc_ne (hu : X.A.units + 64 < cLine) : OpR X (compareOp .NotEq) (rCmp2 X.K neD) := by
  intro pins s σ H x y v u Q I rx ry ⟨F, β, h, x', y', b, sm, gd, wx, wy, e, q⟩
  unfold neD at e
  split at e
  case h_2 => cases e
  rename_i b' e'
  cases e
  have e := e'
  clear e'
  unfold eqD at e
  split at e
  · rename_i i j
    cases e
    cases (show x = .int i from wx)
    cases (show y = .int j from wy)
    refine op_ne pins s σ H _ _ v u Q I rx ry ⟨rfl, ?_⟩
    rw [dec_int, Bool.beq_eq_decide_eq]
    exact q
  · rename_i p p'
    cases e
    cases (show x = .str p.shown from wx)
    cases (show y = .str p'.shown from wy)
    refine op_ne pins s σ H _ _ v u Q I rx ry ⟨rfl, ?_⟩
    rw [dec_str]
    by_cases z : same p p' = true
    · rw [z, same_eq _ _ z] at q
      rw [same_eq _ _ z, beq_self_eq_true]
      simpa using q
    · have z : same p p' = false := by simpa using z
      rw [z, Bool.false_or] at q
      exact q
  · split at e
    · rename_i pa pb ea eb
      split at e
      · rename_i hs
        cases e
        obtain ⟨s1, s2⟩ := Bool.and_eq_true_iff.mp hs
        exact op_neD hu pins s σ H x y v u Q I rx ry ⟨pa, pb, dp_R sm gd wx ea, dp_R sm gd wy eb, s1, s2, q⟩
      · cases e
    · cases e
theorem dp_L {K : Kf} {v : V} {r : R} {ds : List D} (sm : Same F H) (gd : Good K F β h) (rv : RV K F β H r v) (e : viewL h r = some ds) {p : PyData} (e2 : py h deep r.toD = some p) : ∃ l, p = .list l ∧ Dp K H v (.list l) := by
  have d := dp_R sm gd rv e2
  obtain ⟨a, vs, rfl, q, w⟩ := viewL_of sm gd rv e
  have key : ∀ (o : Option (List PyData)), (match o with | some l => some (PyData.list l) | none => none) = some p → ∃ l, p = .list l := fun o z => by
    cases o with
    | none => cases z
    | some l => cases z; exact ⟨l, rfl⟩
  have : ∃ l, p = .list l := by
    cases r with
    | fl l => exact key _ e2
    | d x =>
      cases x with
      | lst l => exact key _ e2
      | ref n =>
        have e2 : (match h[n]? with
          | some (.lst ds) => match allO (ds.map (py h 39)) with
            | some l => some (PyData.list l)
            | none => none
          | _ => none) = some p := e2
        split at e2
        · exact key _ e2
        · cases e2
      | _ => exact nomatch e
  obtain ⟨l, rfl⟩ := this
  exact ⟨l, rfl, d⟩
/-! ### dicts with ints and texts as keys -/
theorem valV_zip {κ : Type} [DecidableEq κ] {K : Kf} : ∀ {l : List κ} {ds : List D} {vs : List V} (j : κ), VRs K F β ds vs → l.length = ds.length →
    match getZ l ds j with
    | some d => ∃ v, valV (l.zip vs) j = some v ∧ VR K F β d v
    | none => valV (l.zip vs) j = none
  | [], [], _, j, w, _ => by cases w; exact rfl
  | k :: l, d :: ds, _, j, ⟨v, r, e, w1, w2⟩, z => by
    subst e
    unfold getZ
    have ih := valV_zip (l := l) (ds := ds) (vs := r) j w2 (by simpa using z)
    by_cases hk : k = j
    · rw [if_pos hk]
      exact ⟨v, by rw [List.zip_cons_cons]; exact valV_pos (p := (k, v)) hk, w1⟩
    · rw [if_neg hk, List.zip_cons_cons, valV_neg (p := (k, v)) hk]
      exact ih
  | [], _ :: _, _, _, _, z => by simp at z
  | _ :: _, [], _, _, _, z => by simp at z
theorem viewK_of {K : Kf} {r : R} {v : V} {l : List Key} {ds : List D} (sm : Same F H) (gd : Good K F β h) (rv : RV K F β H r v) (e : viewK h r = some (l, ds)) : ∃ a vs, v = .ref a ∧ Rd H a (.dK (l.zip vs)) ∧ l.length = ds.length ∧ VRs K F β ds vs := by
  cases r with
  | fl _ => exact nomatch e
  | d x =>
    cases x with
    | dct ks ds' =>
      cases ks with
      | k l' =>
        cases e
        obtain ⟨a, vs, e, q, z, w⟩ := rv
        exact ⟨a, vs, e, Rd.same sm q.2, z, w⟩
      | t _ => exact nomatch e
    | ref n =>
      obtain ⟨a, q, e2⟩ := rv
      have e : (match h[n]? with
        | some (.dct _ (.k l) ds) => some (l, ds)
        | _ => none) = some (l, ds) := e
      split at e
      · rename_i lk l' ds' hl
        cases e
        obtain ⟨vs, f, w, _, z⟩ := gd.ob _ _ _ q hl
        refine ⟨a, vs, e2, ?_, z, w⟩
        cases lk with
        | false => exact .inl (sm _ _ f)
        | true => obtain ⟨o, f⟩ := f; exact .inr ⟨o, sm _ _ f⟩
      · cases e
    | _ => exact nomatch e
theorem keyK_of {K : Kf} {r : R} {v : V} {k : Key} (rv : RV K F β H r v) (e : keyK r = some k) : v = L2.kV k := by
  unfold keyK at e
  split at e
  · cases e; exact rv
  · cases e; exact rv
  · cases e
theorem dget_of {K : Kf} {x y : R} {v u : V} {l : List Key} {ds : List D} {k : Key} (sm : Same F H) (gd : Good K F β h) (wx : RV K F β H x v) (wy : RV K F β H y u) (e1 : viewK h x = some (l, ds)) (e2 : keyK y = some k) :
    ∃ a o, v = .ref a ∧ DGet H a u o ∧ match getZ l ds k with
    | some d => ∃ w, o = some w ∧ VR K F β d w
    | none => o = none := by
  obtain ⟨a, vs, rfl, q, z, w⟩ := viewK_of sm gd wx e1
  cases keyK_of wy e2
  exact ⟨a, valV (l.zip vs) k, rfl, .inl ⟨_, k, q, rfl, rfl⟩, valV_zip k w z⟩
theorem oc_in (hu : X.A.units + 65 < cLine) : OpR X (compareOp .In) (rCmp2 X.K inD) := by
  intro pins s σ H x y v u Q I rx ry ⟨F, β, h, x', y', b, sm, gd, wx, wy, e, q⟩
  unfold inD at e
  split at e
  · rename_i l ds e1
    split at e
    · rename_i k e2
      cases e
      obtain ⟨a, o, rfl, g, t⟩ := dget_of sm gd wy wx e1 e2
      cases (show u = Value.ref a from ry)
      refine d_in (by omega) I g rx fun s' I' => ⟨.bl o.isSome, H, I', rfl, ?_⟩
      have : o.isSome = (getZ l ds k).isSome := by
        split at t
        · rename_i d hd; obtain ⟨w, rfl, _⟩ := t; rw [hd]; rfl
        · rename_i hd; rw [t, hd]; rfl
      rw [this]; exact q
    · cases e
  split at e
  · rename_i pa l bs ea el eb
    split at e
    · rename_i hs
      cases e
      obtain ⟨s1, s2⟩ := Bool.and_eq_true_iff.mp hs
      exact op_inD hu pins s σ H x y v u Q I rx ry ⟨pa, bs, dp_R sm gd wx ea, dp_R sm gd wy eb, s1, s2, q⟩
    · cases e
  · cases e
theorem oc_nin (hu : X.A.units + 65 < cLine) : OpR X (compareOp .NotIn) (rCmp2 X.K ninD) := by
  intro pins s σ H x y v u Q I rx ry ⟨F, β, h, x', y', b, sm, gd, wx, wy, e, q⟩
  unfold ninD at e
  split at e
  case h_2 => cases e
  rename_i b' e'
  cases e
  unfold inD at e'
  split at e'
  · rename_i l ds e1
    split at e'
    · rename_i k e2
      cases e'
      obtain ⟨a, o, rfl, g, t⟩ := dget_of sm gd wy wx e1 e2
      cases (show u = Value.ref a from ry)
      refine d_notIn (by omega) I g rx fun s' I' => ⟨.bl (!o.isSome), H, I', rfl, ?_⟩
      have : o.isSome = (getZ l ds k).isSome := by
        split at t
        · rename_i d hd; obtain ⟨w, rfl, _⟩ := t; rw [hd]; rfl
        · rename_i hd; rw [t, hd]; rfl
      rw [this]; exact q
    · cases e'
  split at e'
  · rename_i pa l bs ea el eb
    split at e'
    · rename_i hs
      cases e'
      obtain ⟨s1, s2⟩ := Bool.and_eq_true_iff.mp hs
      exact op_notInD hu pins s σ H x y v u Q I rx ry ⟨pa, bs, dp_R sm gd wx ea, dp_R sm gd wy eb, s1, s2, q⟩
    · cases e'
  · cases e'
/-- None or not -/
theorem isD_non {K : Kf} {v : V} {r : R} (rv : RV K F β H r v) (n : r ≠ .d .non) : v ≠ .non := by
  intro z
  subst z
  cases r with
  | fl ds => obtain ⟨_, _, e, _⟩ := rv; cases e
  | d x =>
    cases x with
    | non => exact n rfl
    | bl _ => exact nomatch (show V.non = V.bl _ from rv)
    | int _ => exact nomatch (show V.non = V.int _ from rv)
    | str _ => exact nomatch (show V.non = V.str _ from rv)
    | rp _ => exact nomatch (show V.non = V.str _ from rv)
    | tup _ => obtain ⟨_, _, e, _⟩ := rv; cases e
    | lst _ => obtain ⟨_, _, e, _⟩ := rv; cases e
    | ref _ => obtain ⟨_, _, e⟩ := rv; cases e
    | dct _ _ => obtain ⟨_, _, e, _⟩ := rv; cases e
    | xt _ => obtain ⟨_, _, e, _⟩ := rv; cases e
theorem oc_is : OpR X (compareOp .Is) (rCmp2 X.K isD) := by
  intro pins s σ H x y v u Q I rx ry ⟨F, β, h, x', y', b, sm, gd, wx, wy, e, q⟩
  unfold isD at e
  split at e
  · cases e; exact op_isBl pins s σ H x y v u Q I rx ry ⟨_, _, wx, wy, q⟩
  · cases e
    refine op_isN pins s σ H x y v u Q I rx ry ⟨wy, ?_⟩
    rw [show x = .non from wx, decide_eq_true rfl]; exact q
  · rename_i n1 n2
    cases e
    refine op_isN pins s σ H x y v u Q I rx ry ⟨wy, ?_⟩
    rw [decide_eq_false (isD_non wx fun z => n2 z)]; exact q
  · cases e
theorem oc_nis : OpR X (compareOp .IsNot) (rCmp2 X.K nisD) := by
  intro pins s σ H x y v u Q I rx ry ⟨F, β, h, x', y', b, sm, gd, wx, wy, e, q⟩
  unfold nisD at e
  split at e
  case h_2 => cases e
  rename_i b' e'
  cases e
  unfold isD at e'
  split at e'
  · cases e'; exact op_notBl pins s σ H x y v u Q I rx ry ⟨_, _, wx, wy, q⟩
  · cases e'
    refine op_notN pins s σ H x y v u Q I rx ry ⟨wy, ?_⟩
    rw [show x = .non from wx, decide_eq_true rfl]; exact q
  · rename_i n1 n2
    cases e'
    refine op_notN pins s σ H x y v u Q I rx ry ⟨wy, ?_⟩
    rw [decide_eq_false (isD_non wx fun z => n2 z)]; exact q
  · cases e'
theorem oc_cmp (hu : X.A.units + 65 < cLine) : ∀ op, OpR X (compareOp op) (rCmp2 X.K (cmpD op))
  | .Lt => oc_lt (by omega)
  | .LtE => oc_le
  | .Gt => oc_gt
  | .GtE => oc_ge
  | .Eq => oc_eq (by omega)
  | .NotEq => oc_ne (by omega)
  | .In => oc_in hu
  | .NotIn => oc_nin hu
  | .Is => oc_is
  | .IsNot => oc_nis
/-! ### truth -/
theorem tru_of {K : Kf} {v : V} {r : R} {b : Bool} (sm : Same F H) (gd : Good K F β h) (rv : RV K F β H r v) (e : truth h r = some b) : TruV K v H b := by
  have lst : ∀ {ds}, viewL h r = some ds → b = (!ds.isEmpty) → TruV K v H b := fun {ds} e1 e2 => by
    obtain ⟨a, vs, rfl, q, w⟩ := viewL_of sm gd rv e1
    refine .inl ⟨vs, .inl q, ?_⟩
    have l := w.len
    rw [e2]
    cases ds <;> cases vs <;> first | rfl | (simp at l)
  unfold truth at e
  split at e
  · cases e; cases (show v = .non from rv); exact rfl
  · rename_i k; cases e; cases (show v = .bl b from rv); exact rfl
  · rename_i i; cases e; cases (show v = .int i from rv); exact rfl
  · rename_i ds
    cases e
    obtain ⟨a, vs, rfl, q, _, w⟩ := viewT_of (K := K) sm rv rfl
    refine .inr (.inl ⟨vs, q, ?_⟩)
    have l := w.len
    cases ds <;> cases vs <;> first | rfl | (simp at l)
  · rename_i ds
    cases e
    obtain ⟨a, vs, rfl, q, _, w⟩ := viewT_of (K := K) sm rv rfl
    refine .inr (.inl ⟨vs, q, ?_⟩)
    have l := w.len
    cases ds <;> cases vs <;> first | rfl | (simp at l)
  · split at e
    · rename_i ds hd
      cases e
      exact lst hd rfl
    · cases e
end
end MP
end

section
set_option Elab.async false
set_option linter.all false
set_option maxRecDepth 100000
set_option maxHeartbeats 4000000
namespace MP
open PySem PySem.Spec L2 PyProof.Rows
section
variable {X : Cx} {e : Expr} {es : List Expr} {t t' : TE}
theorem PE_weak (h : PE X e t) (w : ∀ σ H Q, t' σ H Q → t σ H Q) : PE X e t' := ⟨fun pins s σ H Q I q => h.run pins s σ H Q I (w σ H Q q)⟩
theorem PT_weak {t t' : TT} (h : PT X e t) (w : ∀ σ H Q, t' σ H Q → t σ H Q) : PT X e t' := ⟨fun pins s σ H Q I q => h.run pins s σ H Q I (w σ H Q q)⟩
theorem PW_weak {t t' : TT} (h : PW X e t) (w : ∀ σ H Q, t' σ H Q → t σ H Q) : PW X e t' := ⟨fun wh pins s σ H Q I q => h.run wh pins s σ H Q I (w σ H Q q)⟩
theorem PA_weak {t t' : TA} (h : PA X es t) (w : ∀ σ H Q, t' σ H Q → t σ H Q) : PA X es t' := ⟨fun pos pins s σ H Q I q => h.run pos pins s σ H Q I (w σ H Q q)⟩
theorem PO_weak {o : Option Expr} {t t' : TO} (h : PO X o t) (w : ∀ σ H Q, t' σ H Q → t σ H Q) : PO X o t' := ⟨fun pins s σ H Q I q => h.run pins s σ H Q I (w σ H Q q)⟩
theorem PS_weak {st : Stmt} {t t' : TS} (h : PS X st t) (w : ∀ D σ H, t' D σ H → t D σ H) : PS X st t' := ⟨fun pins s σ H D I q => h.run pins s σ H D I (w D σ H q)⟩
theorem PSs_weak {st : List Stmt} {t t' : TS} (h : PSs X st t) (w : ∀ D σ H, t' D σ H → t D σ H) : PSs X st t' := ⟨fun pins s σ H D I q => h.run pins s σ H D I (w D σ H q)⟩
theorem PG_weak {t t' : TG} (h : PG X e t) (w : ∀ v σ H Q, t' v σ H Q → t v σ H Q) : PG X e t' := ⟨fun pins s σ H v u Q I r q => h.run pins s σ H v u Q I r (w v σ H Q q)⟩
theorem PGs_weak {t t' : TGs} (h : PGs X es t) (w : ∀ v σ H Q, t' v σ H Q → t v σ H Q) : PGs X es t' := ⟨fun pins s σ H v u Q I r q => h.run pins s σ H v u Q I r (w v σ H Q q)⟩
theorem PI_weak {tg : Expr} {t t' : TI} (h : PI X tg e t) (w : ∀ σ H Q, t' σ H Q → t σ H Q) : PI X tg e t' := ⟨fun pins s σ H Q I q => h.run pins s σ H Q I (w σ H Q q)⟩
end

section
variable {F0 F H H₀ : Hp} {β0 β : List Addr}
theorem none_back (sm0 : Same F0 H₀) (st : Step F0 β0 H₀ F β H) (sm : Same F H) {p : Addr} (n : H p = none) : H₀ p = none := by
  cases q : H₀ p with
  | none => rfl
  | some o =>
    cases f : F0 p with
    | none => have z := (st.hid p o f q).2; rw [n] at z; cases z
    | some o' => obtain ⟨⟨o2, z⟩, _⟩ := st.kp p o' f; have w := sm p o2 z; rw [n] at w; cases w
/-- a plain step behind another -/
theorem Step.plain {F' H' : Hp} (sm0 : Same F0 H₀) (st : Step F0 β0 H₀ F β H) (p : PStep F H F' H') : Step F0 β0 H₀ F' β H' := Step.trans sm0 st p.step
end

section
variable {X : Cx} {pos : Pos} {x : Str}
/-! ### names, constants, displays -/
theorem pd_V {i : Nat} (hN : X.N[i]? = some x) (hv : Vis X.env.scope x) (hd : (x == ("__debug__" : Str)) = false) (hcd : (x == ("__classdict__" : Str)) = false) : PE X (.Name x pos) (tD X.K (kV i)) := by
  refine PE_weak (pe_var hN hv hd hcd) fun σ H Q ⟨F, β, h, en, sm, gd, se, post⟩ => ?_
  unfold kV at post
  split at post
  · rename_i d hd
    obtain ⟨v, q, r⟩ := se.at_ i d hd
    exact ⟨v, q, post v F β H sm .refl gd r⟩
  · exact post.elim
theorem pd_C {d : D} {v : V} (he : PE X e (tC v)) (hv : ∀ K F β, VR K F β d v) : PE X e (tD X.K (kC d)) :=
  PE_weak he fun σ H Q ⟨F, β, h, en, sm, gd, se, post⟩ => post v F β H sm .refl gd (hv _ _ _)
theorem pd_G {cs : List D} {k : Nat} {d : D} {u : Value} {v : V} (hg : Gl X x) (hm : X.mg x = some u) (r : RelV v u) (hd : (x == ("__debug__" : Str)) = false) (hk : cs[k]? = some d) (hv : VR X.K (fun _ => none) [] d v) : PE X (.Name x pos) (tD X.K (kG cs k)) := by
  refine PE_weak (pe_glob hg hm r hd) fun σ H Q ⟨F, β, h, en, sm, gd, se, post⟩ => ?_
  unfold kG at post
  rw [hk] at post
  exact post v F β H sm .refl gd (VR.ext ⟨fun n a z => by simp at z, fun a o z => by cases z⟩ d v hv)
theorem pa_Nil : PA X [] (tL X.K kNil) :=
  PA_weak pa_nil fun σ H Q ⟨F, β, h, en, sm, gd, se, post⟩ => post [] F β H sm .refl gd rfl (by simp [flA])
theorem pa_Cons {e : Expr} {es : List Expr} {d : Den} {ds : DenL} (he : PE X e (tD X.K d)) (hr : PA X es (tL X.K ds)) (hs : starEach (e :: es) X.env = (false, eval e X.env) :: starEach es X.env) : PA X (e :: es) (tL X.K (kCons d ds)) := by
  refine PA_weak (pa_cons he hr hs) fun σ H Q ⟨F, β, h, en, sm, gd, se, post⟩ => ?_
  refine ⟨F, β, h, en, sm, gd, se, ?_⟩
  have post : PostL X.K F β H ((d en h).bind fun r h => (ds en h).bind fun rs h => .ok (r :: rs) h) Q := post
  cases hd : d en h with
  | er e h => rw [hd] at post; exact post
  | no => rw [hd] at post; exact post
  | ok r h1 =>
    rw [hd] at post
    intro v F1 β1 H1 sm1 st1 gd1 rr1
    refine ⟨F1, β1, h1, en, sm1, gd1, se.ext st1.ext, ?_⟩
    have post : PostL X.K F β H ((ds en h1).bind fun rs h => .ok (r :: rs) h) Q := post
    cases hds : ds en h1 with
    | er e h => rw [hds] at post; exact post
    | no => rw [hds] at post; exact post
    | ok rs h2 =>
      rw [hds] at post
      intro vs F2 β2 H2 sm2 st2 gd2 rr2 nd2
      refine post (v :: vs) F2 β2 H2 sm2 (Step.trans sm st1 st2) gd2 ⟨v, vs, rfl, rr1.step st2, rr2.back sm st1 sm1⟩ ?_
      cases r with
      | d y => exact nd2
      | fl l =>
        obtain ⟨a, ws, rfl, _, _, q, _⟩ := rr1
        show (a :: flA rs vs).Nodup
        rw [List.nodup_cons]
        refine ⟨fun z => ?_, nd2⟩
        have w := (flA_none rr2 a z).1
        rw [q] at w; cases w
theorem pd_Tup {es : List Expr} {ds : DenL} {k : Nat} (hs : PA X es (tL X.K ds)) : PE X (.Tuple es k pos) (tD X.K (kTup ds)) := by
  refine PE_weak (pe_tup hs) fun σ H Q ⟨F, β, h, en, sm, gd, se, post⟩ => ⟨F, β, h, en, sm, gd, se, ?_⟩
  unfold kTup at post
  cases hd : ds en h with
  | er e h => rw [hd] at post; exact post
  | no => rw [hd] at post; exact post
  | ok rs h1 =>
    rw [hd] at post
    simp only at post
    split at post
    case isFalse => exact post.elim
    rename_i hl
    intro vs F1 β1 H1 sm1 st1 gd1 rr1 nd1
    obtain ⟨F2, k1, k2, k3, k4⟩ := freezeAll sm st1 sm1 gd1 rr1 nd1
    have gd2 := gd1.more k1
    refine ⟨?_, fun p n => ?_⟩
    · rw [k4.len, List.length_map]; exact of_decide_eq_true hl
    · have ps := PStep.known (o := .tup vs) k2 n
      refine post _ _ _ _ ps.sm (k3.plain sm ps) (gd2.more ps.ff) ⟨p, vs, rfl, .inl ⟨fun z => ?_, .inl upd_same⟩, VRs.ext ps.extb _ _ k4⟩
      obtain ⟨_, _, _, _, _, f, _⟩ := gd2.mem z
      have w := k2 _ _ f
      rw [n] at w; cases w
theorem pd_Lst {es : List Expr} {ds : DenL} (hs : PA X es (tL X.K ds)) : PE X (.List es pos) (tD X.K (kLst ds)) := by
  refine PE_weak (pe_lst hs) fun σ H Q ⟨F, β, h, en, sm, gd, se, post⟩ => ⟨F, β, h, en, sm, gd, se, ?_⟩
  unfold kLst at post
  cases hd : ds en h with
  | er e h => rw [hd] at post; exact post
  | no => rw [hd] at post; exact post
  | ok rs h1 =>
    rw [hd] at post
    simp only at post
    split at post
    case isFalse => exact post.elim
    rename_i hl
    intro vs F1 β1 H1 sm1 st1 gd1 rr1 nd1
    obtain ⟨F2, k1, k2, k3, k4⟩ := freezeAll sm st1 sm1 gd1 rr1 nd1
    have gd2 := gd1.more k1
    refine ⟨?_, fun p n => ?_⟩
    · rw [k4.len, List.length_map]; exact of_decide_eq_true hl
    · have ps := PStep.hidden (o := .lst vs) k2 n
      exact post _ _ _ _ ps.sm (k3.plain sm ps) (gd2.more ps.ff) ⟨p, vs, rfl, none_back sm k3 k2 n, sm_none k2 n, upd_same, k4⟩

/-! ### operators -/
variable {a b c : Expr} {da db dc : Den}
theorem pd_Bin {op : Operator} (ha : PE X a (tD X.K da)) (hb : PE X b (tD X.K db)) : PE X (.BinOp a op b pos) (tD X.K (kBin op da db)) := by
  refine PE_weak (pe_op (or_bin op) ha hb) fun σ H Q ⟨F, β, h, en, sm, gd, se, post⟩ => ?_
  refine bindE sm gd se post fun r v F1 β1 H1 h1 sm1 st1 gd1 se1 rr1 post1 => ?_
  refine bindE sm1 gd1 se1 post1 fun r2 v2 F2 β2 H2 h2 sm2 st2 gd2 se2 rr2 post2 => ?_
  unfold ofO at post2
  split at post2
  · rename_i r3 e
    exact ⟨F2, β2, h2, r, r2, r3, sm2, gd2, rr1.rv.step st2, rr2.rv, e, fun v F' H' ps rr => post2 v F' β2 H' ps.sm ps.step (gd2.more ps.ff) rr⟩
  · exact post2.elim
theorem pd_Neg (ha : PE X a (tD X.K da)) : PE X (.UnaryOp .USub a pos) (tD X.K (kNeg da)) := by
  refine PE_weak (pe_un un_neg ha) fun σ H Q ⟨F, β, h, en, sm, gd, se, post⟩ => ?_
  refine bindE sm gd se post fun r v F1 β1 H1 h1 sm1 st1 gd1 se1 rr1 post1 => ?_
  unfold negR at post1
  split at post1
  · exact ⟨_, rr1, post1 _ F1 β1 H1 sm1 .refl gd1 rfl⟩
  · exact post1.elim
theorem pd_Not (ha : PE X a (tD X.K da)) : PE X (.UnaryOp .Not a pos) (tD X.K (kNot da)) := by
  refine PE_weak (pe_notT ha) fun σ H Q ⟨F, β, h, en, sm, gd, se, post⟩ => ?_
  refine bindE sm gd se post fun r v F1 β1 H1 h1 sm1 st1 gd1 se1 rr1 post1 => ?_
  split at post1
  · rename_i k e
    exact ⟨k, tru_of sm1 gd1 rr1.rv e, post1 _ F1 β1 H1 sm1 .refl gd1 rfl⟩
  · exact post1.elim
theorem pd_Cmp {op : CmpOp} (hu : X.A.units + 65 < cLine) (ha : PE X a (tD X.K da)) (hb : PE X b (tD X.K db)) (hm : behindInMarks op b = false) : PE X (.Compare a [op] [b] pos) (tD X.K (kCmp op da db)) := by
  refine PE_weak (pe_cmpR (oc_cmp hu op) ha hb hm) fun σ H Q ⟨F, β, h, en, sm, gd, se, post⟩ => ?_
  refine bindE sm gd se post fun r v F1 β1 H1 h1 sm1 st1 gd1 se1 rr1 post1 => ?_
  refine bindE sm1 gd1 se1 post1 fun r2 v2 F2 β2 H2 h2 sm2 st2 gd2 se2 rr2 post2 => ?_
  unfold blR at post2
  split at post2
  · rename_i k e
    exact ⟨F2, β2, h2, r, r2, k, sm2, gd2, rr1.rv.step st2, rr2.rv, e, post2 _ F2 β2 H2 sm2 .refl gd2 rfl⟩
  · exact post2.elim
theorem pd_Chain {o1 o2 : CmpOp} (hu : X.A.units + 65 < cLine) (ha : PE X a (tD X.K da)) (hb : PE X b (tD X.K db)) (hc : PE X c (tD X.K dc)) (hm : lastMarks [o1, o2] [b, c] = false) : PE X (.Compare a [o1, o2] [b, c] pos) (tD X.K (kChain o1 o2 da db dc)) := by
  refine PE_weak (pe_chain (oc_cmp hu o1) (oc_cmp hu o2) ha hb hc hm) fun σ H Q ⟨F, β, h, en, sm, gd, se, post⟩ => ?_
  refine bindE sm gd se post fun r v F1 β1 H1 h1 sm1 st1 gd1 se1 rr1 post1 => ?_
  refine bindE sm1 gd1 se1 post1 fun r2 v2 F2 β2 H2 h2 sm2 st2 gd2 se2 rr2 post2 => ?_
  split at post2
  · rename_i e
    refine ⟨F2, β2, h2, r, r2, true, sm2, gd2, rr1.rv.step st2, rr2.rv, e, true, rfl, ?_⟩
    rw [if_pos rfl]
    refine bindE sm2 gd2 se2 post2 fun r3 v3 F3 β3 H3 h3 sm3 st3 gd3 se3 rr3 post3 => ?_
    unfold blR at post3
    split at post3
    · rename_i k e
      exact ⟨F3, β3, h3, r2, r3, k, sm3, gd3, rr2.rv.step st3, rr3.rv, e, post3 _ F3 β3 H3 sm3 .refl gd3 rfl⟩
    · exact post3.elim
  · rename_i e
    refine ⟨F2, β2, h2, r, r2, false, sm2, gd2, rr1.rv.step st2, rr2.rv, e, false, rfl, ?_⟩
    rw [if_neg (by decide)]
    exact post2 _ F2 β2 H2 sm2 .refl gd2 rfl
  · exact post2.elim
theorem pd_And {rest : List Expr} (ha : PE X a (tD X.K da)) (hb : PE X (.BoolOp .And (b :: rest) pos) (tD X.K db)) : PE X (.BoolOp .And (a :: b :: rest) pos) (tD X.K (kAnd da db)) := by
  refine PE_weak (pe_andT ha hb) fun σ H Q ⟨F, β, h, en, sm, gd, se, post⟩ => ?_
  refine ⟨F, β, h, en, sm, gd, se, ?_⟩
  unfold kAnd at post
  cases hd : da en h with
  | er e h => rw [hd] at post; exact post
  | no => rw [hd] at post; exact post
  | ok r h1 =>
    rw [hd] at post
    intro v F1 β1 H1 sm1 st1 gd1 rr1
    simp only [Out.bind] at post
    split at post
    · rename_i e
      refine ⟨true, tru_of sm1 gd1 rr1.rv e, ?_⟩
      rw [if_pos rfl]
      exact ⟨F1, β1, h1, en, sm1, gd1, se.ext st1.ext, PostE.shift sm st1 sm1 post⟩
    · rename_i e
      refine ⟨false, tru_of sm1 gd1 rr1.rv e, ?_⟩
      rw [if_neg (by decide)]
      exact post v F1 β1 H1 sm1 st1 gd1 rr1
    · exact post.elim
theorem pd_Or {rest : List Expr} (ha : PE X a (tD X.K da)) (hb : PE X (.BoolOp .Or (b :: rest) pos) (tD X.K db)) : PE X (.BoolOp .Or (a :: b :: rest) pos) (tD X.K (kOr da db)) := by
  refine PE_weak (pe_orT ha hb) fun σ H Q ⟨F, β, h, en, sm, gd, se, post⟩ => ?_
  refine ⟨F, β, h, en, sm, gd, se, ?_⟩
  unfold kOr at post
  cases hd : da en h with
  | er e h => rw [hd] at post; exact post
  | no => rw [hd] at post; exact post
  | ok r h1 =>
    rw [hd] at post
    intro v F1 β1 H1 sm1 st1 gd1 rr1
    simp only [Out.bind] at post
    split at post
    · rename_i e
      refine ⟨false, tru_of sm1 gd1 rr1.rv e, ?_⟩
      rw [if_neg (by decide)]
      exact ⟨F1, β1, h1, en, sm1, gd1, se.ext st1.ext, PostE.shift sm st1 sm1 post⟩
    · rename_i e
      refine ⟨true, tru_of sm1 gd1 rr1.rv e, ?_⟩
      rw [if_pos rfl]
      exact post v F1 β1 H1 sm1 st1 gd1 rr1
    · exact post.elim

/-! ### tests -/
theorem pt_any (ha : PE X a (tD X.K da)) (he : ∀ whole, isTrue a X.env whole = (do let v ← whole; standAt a.pos; holding [v] (truthy v))) : PT X a (tT X.K da) := by
  refine PT_weak (pt_truth ha he) fun σ H Q ⟨F, β, h, en, sm, gd, se, post⟩ => ?_
  refine bindB sm gd se post fun r v F1 β1 H1 h1 sm1 st1 gd1 se1 rr1 post1 => ?_
  unfold ofO at post1
  split at post1
  · rename_i k e
    exact ⟨k, tru_of sm1 gd1 rr1.rv e, post1 F1 β1 H1 sm1 .refl gd1⟩
  · exact post1.elim
theorem out_bind_assoc {α β γ : Type} (o : Out α) (f : α → Hh → Out β) (g : β → Hh → Out γ) : (o.bind f).bind g = o.bind fun a h => (f a h).bind g := by cases o <;> rfl
theorem pt_Cmp {op : CmpOp} (hu : X.A.units + 65 < cLine) (ha : PE X a (tD X.K da)) (hb : PE X b (tD X.K db)) (hm : behindInMarks op b = false) : PT X (.Compare a [op] [b] pos) (tT X.K (kCmp op da db)) := by
  refine PT_weak (pt_cmpR (oc_cmp hu op) ha hb hm) fun σ H Q ⟨F, β, h, en, sm, gd, se, post⟩ => ?_
  unfold kTest kCmp at post
  rw [out_bind_assoc] at post
  refine bindB sm gd se post fun r v F1 β1 H1 h1 sm1 st1 gd1 se1 rr1 post1 => ?_
  rw [out_bind_assoc] at post1
  refine bindB sm1 gd1 se1 post1 fun r2 v2 F2 β2 H2 h2 sm2 st2 gd2 se2 rr2 post2 => ?_
  unfold blR at post2
  split at post2
  · rename_i k e
    exact ⟨F2, β2, h2, r, r2, k, sm2, gd2, rr1.rv.step st2, rr2.rv, e, k, rfl, post2 F2 β2 H2 sm2 .refl gd2⟩
  · exact post2.elim
theorem pt_Chain {o1 o2 : CmpOp} (hu : X.A.units + 65 < cLine) (ha : PE X a (tD X.K da)) (hb : PE X b (tD X.K db)) (hc : PE X c (tD X.K dc)) (hm : lastMarks [o1, o2] [b, c] = false) : PT X (.Compare a [o1, o2] [b, c] pos) (tT X.K (kChain o1 o2 da db dc)) := by
  refine PT_weak (pt_chain (oc_cmp hu o1) (oc_cmp hu o2) ha hb hc hm) fun σ H Q ⟨F, β, h, en, sm, gd, se, post⟩ => ?_
  unfold kTest kChain at post
  rw [out_bind_assoc] at post
  refine bindB sm gd se post fun r v F1 β1 H1 h1 sm1 st1 gd1 se1 rr1 post1 => ?_
  rw [out_bind_assoc] at post1
  refine bindB sm1 gd1 se1 post1 fun r2 v2 F2 β2 H2 h2 sm2 st2 gd2 se2 rr2 post2 => ?_
  split at post2
  · rename_i e
    refine ⟨F2, β2, h2, r, r2, true, sm2, gd2, rr1.rv.step st2, rr2.rv, e, true, rfl, ?_⟩
    rw [if_pos rfl]
    rw [out_bind_assoc] at post2
    refine bindB sm2 gd2 se2 post2 fun r3 v3 F3 β3 H3 h3 sm3 st3 gd3 se3 rr3 post3 => ?_
    unfold blR at post3
    split at post3
    · rename_i k e
      exact ⟨F3, β3, h3, r2, r3, k, sm3, gd3, rr2.rv.step st3, rr3.rv, e, k, rfl, post3 F3 β3 H3 sm3 .refl gd3⟩
    · exact post3.elim
  · rename_i e
    refine ⟨F2, β2, h2, r, r2, false, sm2, gd2, rr1.rv.step st2, rr2.rv, e, false, rfl, ?_⟩
    rw [if_neg (by decide)]
    exact ⟨false, rfl, post2 F2 β2 H2 sm2 .refl gd2⟩
  · exact post2.elim
/-- first a test, then the rest -/
theorem bindT {K : Kf} {F H : Hp} {β : List Addr} {h : Hh} {en : En} {σ : L2.St} {α : Type} {f : Bool → Hh → Out α} {P : Hp → List Addr → Hp → Out α → Prop} {k : Bool → Hp → Prop} (sm : Same F H) (gd : Good K F β h) (se : SimE K F β en σ)
    (post : P F β H ((kTest da en h).bind f)) (no : ¬ P F β H .no) (er : ∀ e h, ¬ P F β H (.er e h)) (sh : ∀ F1 β1 H1 o, Step F β H F1 β1 H1 → Same F1 H1 → P F β H o → P F1 β1 H1 o)
    (hk : ∀ b F1 β1 H1 h1, Same F1 H1 → Step F β H F1 β1 H1 → Good K F1 β1 h1 → SimE K F1 β1 en σ → P F1 β1 H1 (f b h1) → k b H1) : tT K da σ H k := by
  refine ⟨F, β, h, en, sm, gd, se, ?_⟩
  cases ha : kTest da en h with
  | ok r h1 =>
    rw [ha] at post
    exact fun F1 β1 H1 sm1 s1 g1 => hk r F1 β1 H1 h1 sm1 s1 g1 (se.ext s1.ext) (sh _ _ _ _ s1 sm1 post)
  | er e h1 => rw [ha] at post; exact absurd post (er e h1)
  | no => rw [ha] at post; exact absurd post no
theorem bindTB {K : Kf} {F H : Hp} {β : List Addr} {h : Hh} {en : En} {σ : L2.St} {f : Bool → Hh → Out Bool} {Q : Bool → Hp → Prop} {k : Bool → Hp → Prop} (sm : Same F H) (gd : Good K F β h) (se : SimE K F β en σ) (post : PostB K F β H ((kTest da en h).bind f) Q)
    (hk : ∀ b F1 β1 H1 h1, Same F1 H1 → Step F β H F1 β1 H1 → Good K F1 β1 h1 → SimE K F1 β1 en σ → PostB K F1 β1 H1 (f b h1) Q → k b H1) : tT K da σ H k :=
  bindT (P := fun F β H o => PostB K F β H o Q) sm gd se post (fun z => z) (fun _ _ z => z) (fun _ _ _ _ s _ p => p.shift sm s) hk
theorem bindTE {K : Kf} {F H : Hp} {β : List Addr} {h : Hh} {en : En} {σ : L2.St} {f : Bool → Hh → Out R} {Q : VK} {k : Bool → Hp → Prop} (sm : Same F H) (gd : Good K F β h) (se : SimE K F β en σ) (post : PostE K F β H ((kTest da en h).bind f) Q)
    (hk : ∀ b F1 β1 H1 h1, Same F1 H1 → Step F β H F1 β1 H1 → Good K F1 β1 h1 → SimE K F1 β1 en σ → PostE K F1 β1 H1 (f b h1) Q → k b H1) : tT K da σ H k :=
  bindT (P := fun F β H o => PostE K F β H o Q) sm gd se post (fun z => z) (fun _ _ z => z) (fun _ _ _ _ s sm1 p => p.shift sm s sm1) hk
theorem test_and (en : En) (h : Hh) : kTest (kAnd da db) en h = (kTest da en h).bind fun b h => match b with | true => kTest db en h | false => .ok false h := by
  unfold kTest kAnd
  rw [out_bind_assoc, out_bind_assoc]
  congr 1
  funext x h1
  cases e : truth h1 x with
  | none => rfl
  | some b => cases b <;> simp [ofO, Out.bind, e]
theorem test_or (en : En) (h : Hh) : kTest (kOr da db) en h = (kTest da en h).bind fun b h => match b with | false => kTest db en h | true => .ok true h := by
  unfold kTest kOr
  rw [out_bind_assoc, out_bind_assoc]
  congr 1
  funext x h1
  cases e : truth h1 x with
  | none => rfl
  | some b => cases b <;> simp [ofO, Out.bind, e]
theorem test_not (en : En) (h : Hh) : kTest (kNot da) en h = (kTest da en h).bind fun b h => .ok (!b) h := by
  unfold kTest kNot
  rw [out_bind_assoc, out_bind_assoc]
  congr 1
  funext x h1
  cases e : truth h1 x with
  | none => rfl
  | some b => cases b <;> simp [ofO, Out.bind, truth]
theorem test_ite (en : En) (h : Hh) : kTest (kIte dc da db) en h = (kTest dc en h).bind fun b h => match b with | true => kTest da en h | false => kTest db en h := by
  unfold kTest kIte
  rw [out_bind_assoc, out_bind_assoc]
  congr 1
  funext x h1
  cases e : truth h1 x with
  | none => rfl
  | some b => cases b <;> rfl
theorem ite_bind (en : En) (h : Hh) : kIte dc da db en h = (kTest dc en h).bind fun b h => match b with | true => da en h | false => db en h := by
  unfold kTest kIte
  rw [out_bind_assoc]
  congr 1
  funext x h1
  cases e : truth h1 x with
  | none => rfl
  | some b => cases b <;> rfl
theorem pw_And {rest : List Expr} (ha : PT X a (tT X.K da)) (hb : PW X (.BoolOp .And (b :: rest) pos) (tT X.K db)) : PW X (.BoolOp .And (a :: b :: rest) pos) (tT X.K (kAnd da db)) := by
  refine PW_weak (pw_and ha hb) fun σ H Q ⟨F, β, h, en, sm, gd, se, post⟩ => ?_
  rw [test_and] at post
  refine bindTB sm gd se post fun k F1 β1 H1 h1 sm1 st1 gd1 se1 post1 => ?_
  cases k with
  | true => rw [if_pos rfl]; exact ⟨F1, β1, h1, en, sm1, gd1, se1, post1⟩
  | false => rw [if_neg (by decide)]; exact post1 F1 β1 H1 sm1 .refl gd1
theorem pw_Or {rest : List Expr} (ha : PT X a (tT X.K da)) (hb : PW X (.BoolOp .Or (b :: rest) pos) (tT X.K db)) : PW X (.BoolOp .Or (a :: b :: rest) pos) (tT X.K (kOr da db)) := by
  refine PW_weak (pw_or ha hb) fun σ H Q ⟨F, β, h, en, sm, gd, se, post⟩ => ?_
  rw [test_or] at post
  refine bindTB sm gd se post fun k F1 β1 H1 h1 sm1 st1 gd1 se1 post1 => ?_
  cases k with
  | false => rw [if_neg (by decide)]; exact ⟨F1, β1, h1, en, sm1, gd1, se1, post1⟩
  | true => rw [if_pos rfl]; exact post1 F1 β1 H1 sm1 .refl gd1
theorem pt_Not (ha : PT X a (tT X.K da)) : PT X (.UnaryOp .Not a pos) (tT X.K (kNot da)) := by
  refine PT_weak (pt_not ha) fun σ H Q ⟨F, β, h, en, sm, gd, se, post⟩ => ?_
  rw [test_not] at post
  exact bindTB sm gd se post fun k F1 β1 H1 h1 sm1 st1 gd1 se1 post1 => post1 F1 β1 H1 sm1 .refl gd1
theorem pd_Ite (hc : PT X c (tT X.K dc)) (ha : PE X a (tD X.K da)) (hb : PE X b (tD X.K db)) : PE X (.IfExp c a b pos) (tD X.K (kIte dc da db)) := by
  refine PE_weak (pe_ifExp hc ha hb) fun σ H Q ⟨F, β, h, en, sm, gd, se, post⟩ => ?_
  rw [ite_bind] at post
  refine bindTE sm gd se post fun k F1 β1 H1 h1 sm1 st1 gd1 se1 post1 => ?_
  cases k with
  | true => rw [if_pos rfl]; exact ⟨F1, β1, h1, en, sm1, gd1, se1, post1⟩
  | false => rw [if_neg (by decide)]; exact ⟨F1, β1, h1, en, sm1, gd1, se1, post1⟩
end
end MP
end

section
set_option Elab.async false
set_option linter.all false
set_option maxRecDepth 100000
set_option maxHeartbeats 4000000
namespace MP
open PySem PySem.Spec L2 PyProof.Rows
/-! ### t[::-1] of a tuple -/
section
variable {prog : Program} {w : World} {A : Around} {E : Value → Shared → Prop} {s : Shared}
theorem slApplied_back {sl : Addr} {vl vu vs : Value} {n : Nat} {Q : Int × Int × Nat → Shared → Prop} (hs : s.heap.IsSliceOf sl vl vu vs) (pl : IsPart vl none) (pu : IsPart vu none) (ps : IsPart vs (some (-1)))
    (h : Q ((n : Int) - 1, -1, n) s) : wpAny (model prog w) A (Builtin.Slice.sliceApplied (.ref sl) (pure (n : Int))) Q E s := by
  obtain ⟨os, ho, hc, hd⟩ := id hs
  unfold Builtin.Slice.sliceApplied Builtin.Slice.sliceFields
  have last : wpAny (model prog w) A (pure (vl, vu, vs) : Sem (Value × Value × Value)) (fun p s => wpAny (model prog w) A (do
      let step := (← Builtin.Slice.slicePartIndex p.2.2).getD 1
      if step == 0 then rule "slice.step-zero"; raiseError "ValueError" "slice step cannot be zero"
      let start ← Builtin.Slice.slicePartIndex p.1
      let stop ← Builtin.Slice.slicePartIndex p.2.1
      let (lo, hi) := Builtin.Slice.sliceAdjust start stop step (← (pure (n : Int) : Sem Int))
      return (lo, step, Builtin.Slice.slicePlaces lo hi step)) Q E s) E s := by
    refine wpAny_pure (wpAny_bind (HT.slicePart_ ps ?_))
    show wpAny _ _ (if ((-1 : Int) == 0) = true then _ else _) _ _ s
    rw [if_neg (by decide)]
    refine wpAny_bind (HT.slicePart_ pl (wpAny_bind (HT.slicePart_ pu (wpAny_bind (wpAny_pure ?_)))))
    have e : Builtin.Slice.slicePlaces ((n : Int) - 1) (-1) (-1) = n := by
      unfold Builtin.Slice.slicePlaces
      rw [if_neg (by decide)]
      by_cases z : n = 0
      · subst z; decide
      · rw [if_pos (by omega)]
        have w : ((n : Int) - 1 - (-1) - 1) / (- -1) + 1 = n := by
          rw [show (- -1 : Int) = 1 by decide, Int.ediv_one]; omega
        rw [w]; omega
    show wpAny _ _ (pure ((n : Int) - 1, (-1 : Int), Builtin.Slice.slicePlaces ((n : Int) - 1) (-1) (-1))) _ _ s
    rw [e]
    exact wpAny_pure h
  exact wpAny_bind (wpAny_bind (wpAny_field ho hd (x := vl) rfl (wpAny_bind (wpAny_field ho hd (x := vu) rfl (wpAny_bind (wpAny_field ho hd (x := vs) rfl last))))))
theorem fm_of {α β : Type} {f : α → Option β} {g : α → β} : ∀ {l : List α}, (∀ m, m ∈ l → f m = some (g m)) → l.filterMap f = l.map g
  | [], _ => rfl
  | x :: l, k => by rw [List.filterMap_cons, k x List.mem_cons_self, List.map_cons, fm_of fun m h => k m (List.mem_cons_of_mem _ h)]
theorem pick_back (xs : List Value) : ((List.range xs.length).filterMap fun (m : Nat) => xs.toArray[((xs.length : Int) - 1 + (m : Int) * (-1)).toNat]?).toArray = xs.reverse.toArray := by
  congr 1
  have key : ∀ m, m ∈ List.range xs.length → (xs.toArray[((xs.length : Int) - 1 + (m : Int) * (-1)).toNat]?) = some ((xs.reverse)[m]?.getD .none) := fun m hm => by
    have hm := List.mem_range.mp hm
    have e : ((xs.length : Int) - 1 + (m : Int) * (-1)).toNat = xs.length - 1 - m := by omega
    rw [e, List.getElem?_toArray, List.getElem?_reverse hm, List.getElem?_eq_getElem (by omega)]
    rfl
  rw [fm_of key]
  apply List.ext_getElem
  · simp
  · intro i h1 h2
    have h3 : i < xs.length := by simpa using h1
    simp only [List.getElem_map, List.getElem_range]
    rw [List.getElem?_eq_getElem (by simpa using h3)]
    rfl
theorem item_tuple_back {t sl : Addr} {items : List Value} {vl vu vs : Value} {Q : Value → Shared → Prop} (ht : IsTup s.heap t items.toArray) (hs : s.heap.IsSliceOf sl vl vu vs) (pl : IsPart vl none) (pu : IsPart vu none) (ps : IsPart vs (some (-1)))
    (h : Q (.ref s.heap.objs.size) { s with heap := s.heap.push { cls := .type "tuple", data := .seq items.reverse.toArray } }) (hsz : items.length ≤ sizeLine) : wpAny (model prog w) A (getItem (.ref t) (.ref sl)) Q E s := by
  have hz : sizeOk (.seq items.reverse.toArray) := by
    show items.reverse.toArray.size ≤ sizeLine
    rw [List.size_toArray, List.length_reverse]; exact hsz
  obtain ⟨os, hos, hcs, hds⟩ := id hs
  have hT : s.TypeIs (.ref sl) "slice" := ⟨os, hos, hcs⟩
  unfold getItem
  try with_reducible refine wpAny_holding ?_
  first | refine wpAny_bind (wpAny_pure ?_) | skip
  refine wpAny_bind (wpAny_sequenceKey ht.typeIs (by decide) ?_)
  refine wpAny_bind (wpAny_callSpecial?_slot (name := Str.ofString "__getitem__") ht.typeIs PyProof.Rows.slot_tuple_getitem
    (wpAny_call_entry PyProof.Rows.slot_tuple_getitem ht.typeIs entry_tuple_getitem ?_ (args_tuple_getitem _ _)))
  show wpAny _ _ (Builtin.Tuple.tupleItemsOf (.ref t) >>= _) _ _ s
  refine wpAny_bind (tupleItemsOf_ ht ?_)
  refine wpAny_bind (wpAny_typeOf hT ?_)
  rw [if_pos (by decide)]
  rw [List.size_toArray]
  refine wpAny_bind (slApplied_back hs pl pu ps ?_)
  have hno : ¬ (((items.length : Int) - 1 == 0 && (-1 : Int) == 1 && items.length == items.length) = true) := by
    intro q
    rw [Bool.and_eq_true, Bool.and_eq_true] at q
    exact absurd q.1.2 (by decide)
  show wpAny _ _ (if ((items.length : Int) - 1 == 0 && (-1 : Int) == 1 && items.length == items.length) = true then _ else _) _ _ s
  rw [if_neg hno, pick_back]
  exact wpAny_bind (m := Builtin.Tuple.tupleExact _) (wpAny_newObj_type (wpAny_pure ⟨_, rfl, wpAny_pure h⟩) hz)
end

section
variable {X : Cx} {pos p1 p2 p3 : Pos} {a b c lo hi : Expr} {da db dl dh : Den}
def rIxDct : R2 := fun x y H Q => ∃ a v, x = .ref a ∧ DGet H a y (some v) ∧ Q v H
theorem ix_dct (hu : X.A.units + 1 < cLine) : IxR X rIxDct := by
  intro value slice pins s σ H x y v u Q I rx ry ⟨a, w, ex, g, q⟩ hs
  subst ex
  cases (show v = Value.ref a from rx)
  have hT := dict_typeIs I g
  unfold subscriptTail
  refine wpAny_bind ?_
  rw [getitemInPython_of_ne hT.not_modules]
  refine wpAny_bind (wpAny_specialOf hT PySem.F.slot_dict_getitem.lookup ?_)
  have fin : wpAny (model X.prog X.w) X.A (subscripted slice false (.ref a) u) (fun r s₃ => wpAny (model X.prog X.w) X.A (letTemporaryGo value (.ref a) r >>= fun _ => pure r) (EP X pins σ Q) X.xe s₃) X.xe s := by
    rw [hs]
    exact wpAny_operating (d_getItem hu I g ry fun w' s3 I3 rw' => wpAny_bind (wpAny_letTemporaryGo (wpAny_pure ⟨w, H, I3, rw', q⟩)))
  first
    | exact wpAny_pure (wpAny_bind fin)
    | exact wpAny_bind (wpAny_pure (wpAny_bind fin))
    | exact wpAny_bind fin
theorem pd_Ix (hu : X.A.units + 1 < cLine) (ha : PE X a (tD X.K da)) (hb : PE X b (tD X.K db)) (hs : PlainIx b) : PE X (.Subscript a b pos) (tD X.K (kIx da db)) := by
  refine PE_weak (pe_ix (IxR.or (ix_dct hu) (IxR.or ix_list ix_tup)) ha hb hs) fun σ H Q ⟨F, β, h, en, sm, gd, se, post⟩ => ?_
  refine bindE sm gd se post fun r v F1 β1 H1 h1 sm1 st1 gd1 se1 rr1 post1 => ?_
  refine bindE sm1 gd1 se1 post1 fun r2 v2 F2 β2 H2 h2 sm2 st2 gd2 se2 rr2 post2 => ?_
  unfold dOut at post2
  split at post2
  case h_2 => exact post2.elim
  rename_i d e
  unfold ixD at e
  split at e
  · rename_i l ds e1
    split at e
    case h_2 => cases e
    rename_i k e2
    obtain ⟨p, o, rfl, g, t⟩ := dget_of sm2 gd2 (rr1.rv.step st2) rr2.rv e1 e2
    rw [e] at t
    obtain ⟨w, rfl, rw'⟩ := t
    exact .inl ⟨p, w, rfl, g, post2 w F2 β2 H2 sm2 .refl gd2 rw'⟩
  split at e
  case h_2 => cases e
  rename_i i
  split at e
  case h_2 => cases e
  rename_i ds hd
  cases (show v2 = .int i from rr2)
  obtain ⟨p, vs, rfl, q, w⟩ := viewS_of sm2 gd2 (rr1.rv.step st2) hd
  obtain ⟨j, e1, e2⟩ := Option.bind_eq_some_iff.mp (show (ixN ds.length i).bind (fun j => ds[j]?) = some d from e)
  obtain ⟨z, hz, rz⟩ := w.get e2
  have at_ : atI vs i = some z := by unfold atI; rw [w.len, e1]; exact hz
  have fin := post2 z F2 β2 H2 sm2 .refl gd2 rz
  rcases q with q | q
  · exact .inr (.inl ⟨p, vs, i, z, rfl, rfl, q, at_, fin⟩)
  · exact .inr (.inr ⟨p, vs, i, z, rfl, rfl, q, at_, fin⟩)
def PostO (K : Kf) (F : Hp) (β : List Addr) (H : Hp) (o : Out (Option Int)) (Q : Option Int → Hp → Prop) : Prop := match o with
  | .ok b h' => ∀ F' β' H', Same F' H' → Step F β H F' β' H' → Good K F' β' h' → Q b H'
  | _ => False
def tP (K : Kf) (d : En → Hh → Out (Option Int)) : TO := fun σ H Q => ∃ F β h en, Same F H ∧ Good K F β h ∧ SimE K F β en σ ∧ PostO K F β H (d en h) Q
theorem po_No {d : Den} : PO X none (tP X.K (kPart false d)) := PO_weak po_none fun σ H Q ⟨F, β, h, en, sm, gd, se, post⟩ => post F β H sm .refl gd
theorem po_Some {e : Expr} {d : Den} (he : PE X e (tD X.K d)) : PO X (some e) (tP X.K (kPart true d)) := by
  refine PO_weak (po_some he) fun σ H Q ⟨F, β, h, en, sm, gd, se, post⟩ => ⟨F, β, h, en, sm, gd, se, ?_⟩
  unfold kPart at post
  simp only at post
  cases hd : d en h with
  | er e h => rw [hd] at post; exact post
  | no => rw [hd] at post; exact post
  | ok r h1 =>
    rw [hd] at post
    intro v F1 β1 H1 sm1 st1 gd1 rr1
    simp only [Out.bind] at post
    split at post
    · exact ⟨_, rr1, post F1 β1 H1 sm1 st1 gd1⟩
    · exact post.elim
theorem PostO.bindE {K : Kf} {F H : Hp} {β : List Addr} {h : Hh} {en : En} {σ : L2.St} {d : En → Hh → Out (Option Int)} {f : Option Int → Hh → Out R} {Q : VK} {k : Option Int → Hp → Prop} (sm : Same F H) (gd : Good K F β h) (se : SimE K F β en σ) (post : PostE K F β H ((d en h).bind f) Q)
    (hk : ∀ b F1 β1 H1 h1, Same F1 H1 → Step F β H F1 β1 H1 → Good K F1 β1 h1 → SimE K F1 β1 en σ → PostE K F1 β1 H1 (f b h1) Q → k b H1) : tP K d σ H k := by
  refine ⟨F, β, h, en, sm, gd, se, ?_⟩
  cases ha : d en h with
  | ok r h1 =>
    rw [ha] at post
    exact fun F1 β1 H1 sm1 s1 g1 => hk r F1 β1 H1 h1 sm1 s1 g1 (se.ext s1.ext) (PostE.shift sm s1 sm1 post)
  | er e h1 => rw [ha] at post; exact post
  | no => rw [ha] at post; exact post
theorem VRs.cut {K : Kf} {F : Hp} {β : List Addr} {ds : List D} {vs : List V} (w : VRs K F β ds vs) (lo hi : Option Int) : VRs K F β (cutD ds lo hi) (cutV vs lo hi) := by
  unfold cutD cutV
  rw [w.len]
  exact (w.drop _).take _
theorem pd_Sl {b1 b2 : Bool} {lo hi : Option Expr} (ha : PE X a (tD X.K da)) (hl : PO X lo (tP X.K (kPart b1 dl))) (hh : PO X hi (tP X.K (kPart b2 dh))) : PE X (.Subscript a (.Slice lo hi none p2) pos) (tD X.K (kSl b1 b2 da dl dh)) := by
  refine PE_weak (pe_slice (SlR.or sl_list sl_tupA) ha hl hh) fun σ H Q ⟨F, β, h, en, sm, gd, se, post⟩ => ?_
  refine bindE sm gd se post fun r v F1 β1 H1 h1 sm1 st1 gd1 se1 rr1 post1 => ?_
  refine PostO.bindE sm1 gd1 se1 post1 fun l F2 β2 H2 h2 sm2 st2 gd2 se2 post2 => ?_
  refine PostO.bindE sm2 gd2 se2 post2 fun u F3 β3 H3 h3 sm3 st3 gd3 se3 post3 => ?_
  have rv := (rr1.rv.step st2).step st3
  unfold ofO at post3
  split at post3
  case h_2 => exact post3.elim
  rename_i r3 e
  have q : ∀ v F' H', PStep F3 H3 F' H' → RR X.K F' β3 H3 H' r3 v → Q v H' := fun v F' H' ps rr => post3 v F' β3 H' ps.sm ps.step (gd3.more ps.ff) rr
  clear post3
  unfold slD at e
  split at e
  · rename_i ds hd
    cases e
    obtain ⟨p, vs, rfl, q1, q2, w⟩ := viewT_of (K := X.K) sm3 rv hd
    refine .inr ⟨p, vs, rfl, q1, fun z => ?_, fun _ => new_tup sm3 gd3 (w.cut l u) q⟩
    refine q _ _ _ (.refl sm3) ⟨p, vs, rfl, q2, ?_⟩
    have : cutD ds l u = ds := by
      unfold cutD
      rw [← w.len, z.1, z.2, List.drop_zero, Nat.sub_zero, w.len, List.take_length]
    rw [this]
    exact w
  · split at e
    · rename_i ds hd
      cases e
      obtain ⟨p, vs, rfl, q1, w⟩ := viewL_of sm3 gd3 rv hd
      exact .inl ⟨p, vs, rfl, .inl q1, new_lst sm3 (w.cut l u) q⟩
    · cases e
theorem pd_Rev {k : Nat} (ha : PE X a (tD X.K da)) : PE X (.Subscript a (.Slice none none (some (.UnaryOp .USub (.Constant (.int 1) k p1) p2)) p3) pos) (tD X.K (kRev da)) := by
  refine ⟨fun pins s σ H Q I ⟨F, β, h, en, sm, gd, se, post⟩ => ?_⟩
  have hb := bindE (K := X.K) (k := fun v H1 => ∃ F1 β1 h1 r, Same F1 H1 ∧ Good X.K F1 β1 h1 ∧ RV X.K F1 β1 H1 r v ∧ PostE X.K F1 β1 H1 (ofO (revD r h1) h1) Q) sm gd se post fun r v F1 β1 H1 h1 sm1 st1 gd1 se1 rr1 post1 => ⟨F1, β1, h1, r, sm1, gd1, rr1.rv, post1⟩
  refine Subscript_ (thn (ha.run pins s σ H _ I hb) fun v s1 ⟨x, H1, I1, r1, F1, β1, h1, r, sm1, gd1, rv, post1⟩ => ?_)
  unfold ofO at post1
  split at post1
  case h_2 => exact post1.elim
  rename_i r3 e
  have q : ∀ v F' H', PStep F1 H1 F' H' → RR X.K F' β1 H1 H' r3 v → Q v H' := fun v F' H' ps rr => post1 v F' β1 H' ps.sm ps.step (gd1.more ps.ff) rr
  clear post1
  have hst : PO X (some (.UnaryOp .USub (.Constant (.int 1) k p1) p2)) (tPart (tUn (rU fun i => .int (-i)) (tC (.int 1)))) := po_some (pe_un un_neg pe_int)
  refine wpAny_Slice (thn (po_none.run pins s1 σ H1 (fun o H2 => o = none ∧ H2 = H1) I1 ⟨rfl, rfl⟩) fun vl s2 ⟨l, H2, I2, pl, el, e2⟩ => ?_)
  subst el e2
  refine thn (po_none.run pins s2 σ H2 (fun o H3 => o = none ∧ H3 = H2) I2 ⟨rfl, rfl⟩) fun vu s3 ⟨u, H3, I3, pu, eu, e3⟩ => ?_
  subst eu e3
  refine thn (hst.run pins s3 σ H3 (fun o H4 => o = some (-1) ∧ H4 = H3) I3 ⟨1, rfl, -1, rfl, rfl, rfl⟩) fun vs s4 ⟨o, H4, I4, ps, eo, e4⟩ => ?_
  subst eo e4
  have I5 : L2.Inv X pins σ H4 { s4 with heap := s4.heap.push { cls := .type "slice", data := .fields #[vl, vu, vs] } } := I4.kept (t' := s4.toks) fun b ob q => Heap.get?_push_of_some _ q
  unfold revD at e
  split at e
  · rename_i ds hd
    cases e
    obtain ⟨p, ws, rfl, q1, q2, w⟩ := viewT_of (K := X.K) sm1 rv hd
    cases r1
    obtain ⟨its, r, ht, hz⟩ := I5.tuple q1
    have hlen := r.length
    refine tail_any (ops := [.ref p, .ref s4.heap.objs.size]) ht.typeIs PyProof.Rows.slot_tuple_getitem.lookup ?_ (by with_unfolding_all rfl)
    refine item_tuple_back ht (Heap.IsSliceOf.new _ vl vu vs) pl pu ps ?_ (by omega)
    refine ⟨.ref _, _, I5.laid (t' := s4.toks) (o := .tup ws.reverse) (fun b ob q => Heap.get?_push_of_some _ q) (Nat.le_refl _) ?_, rfl, new_tup sm1 gd1 w.rev q _ (I5.hok.fresh (Nat.le_refl _))⟩
    exact ⟨by rw [List.length_reverse]; exact hz, _, r.reverse, IsTup.new _ _⟩
  · split at e
    case h_2 => cases e
    rename_i ds hd
    cases e
    obtain ⟨p, ws, rfl, q1, w⟩ := viewL_of sm1 gd1 rv hd
    cases r1
    obtain ⟨its, r, ht, hz⟩ := I5.list (X := X) (a := p) (xs := ws) (.inl q1)
    have hlen := r.length
    refine tail_any (ops := [.ref p, .ref s4.heap.objs.size]) ht.isList.typeIs (PySem.slot_list_getitem.lookup) ?_ (by with_unfolding_all rfl)
    refine wpAny_getItem_list_slice ht.isList (Heap.IsSliceOf.new _ vl vu vs) pl pu ps (by decide) ?_ (by rw [List.size_toArray]; omega)
    rw [PySem.W.krv_pick]
    refine ⟨.ref _, _, I5.laid (t' := s4.toks) (o := .lst ws.reverse) (fun b ob q => Heap.get?_push_of_some _ q) (Nat.le_refl _) ?_, rfl, new_lst sm1 w.rev q _ (I5.hok.fresh (Nat.le_refl _))⟩
    exact ⟨by rw [List.length_reverse]; exact hz, _, 0, r.reverse, Heap.get?_push_size _ rfl⟩
end
end MP
end

section
set_option Elab.async false
set_option linter.all false
set_option maxRecDepth 100000
set_option maxHeartbeats 4000000
namespace MP
open PySem PySem.Spec L2 PyProof.Rows
section
variable {X : Cx} {F H H₀ : Hp} {β : List Addr} {h : Hh}
theorem rv_of1 {K : Kf} {rs : List R} {vs : List V} {x : R} (rr : RRs K F β H₀ H rs vs) (e : rs = [x]) : ∃ v, vs = [v] ∧ RV K F β H x v := by
  subst e
  obtain ⟨v, ws, rfl, q, e⟩ := rr
  cases e
  exact ⟨v, rfl, q.rv⟩
theorem rv_of2 {K : Kf} {rs : List R} {vs : List V} {x y : R} (rr : RRs K F β H₀ H rs vs) (e : rs = [x, y]) : ∃ v w, vs = [v, w] ∧ RV K F β H x v ∧ RV K F β H y w := by
  subst e
  obtain ⟨v, ws, rfl, q, w, ws2, rfl, q2, e⟩ := rr
  cases e
  exact ⟨v, w, rfl, q.rv, q2.rv⟩
theorem seq1_of {K : Kf} {rs : List R} {vs : List V} {ds : List D} (sm : Same F H) (gd : Good K F β h) (rr : RRs K F β H₀ H rs vs) (e : seq1 rs h = some ds) : ∃ a ws, vs = [.ref a] ∧ (SqL K H a ws ∨ SqT K H a ws) ∧ VRs K F β ds ws := by
  unfold seq1 at e
  split at e
  · rename_i x
    obtain ⟨v, rfl, rv⟩ := rv_of1 rr rfl
    obtain ⟨a, ws, rfl, q, w⟩ := viewS_of sm gd rv e
    exact ⟨a, ws, rfl, q, w⟩
  · cases e
theorem ints1_of {K : Kf} {rs : List R} {vs : List V} {ns : List Int} (sm : Same F H) (gd : Good K F β h) (rr : RRs K F β H₀ H rs vs) (e : ints1 rs h = some ns) : ∃ a, vs = [.ref a] ∧ (SqL K H a (ns.map V.int) ∨ SqT K H a (ns.map V.int)) := by
  unfold ints1 at e
  split at e
  · split at e
    · rename_i x _ ds hd
      obtain ⟨v, rfl, rv⟩ := rv_of1 rr rfl
      obtain ⟨a, ws, rfl, q, w⟩ := viewS_of sm gd rv hd
      have z := w.intsD e
      subst z
      exact ⟨a, rfl, q⟩
    · cases e
  · cases e

theorem cb_len : CallR X (.builtin "len") (rOp1 X.K bLen) := by
  intro pins s σ H xs us Q I r ⟨F, β, h, rs, H₀, r', sm, gd, rr, e, q⟩
  unfold bLen at e
  split at e
  · rename_i ds hd
    cases e
    obtain ⟨a, ws, rfl, q1, w⟩ := seq1_of sm gd rr hd
    refine call_len_seq pins s σ H _ us Q I r ⟨a, ws, rfl, q1, ?_⟩
    rw [w.len]
    exact q _ _ _ (.refl sm) rfl
  · cases e
theorem cb_abs : CallR X (.builtin "abs") (rOp1 X.K bAbs) := by
  intro pins s σ H xs us Q I r ⟨F, β, h, rs, H₀, r', sm, gd, rr, e, q⟩
  unfold bAbs at e
  split at e
  · rename_i i
    cases e
    obtain ⟨v, rfl, rv⟩ := rv_of1 rr rfl
    cases (show v = .int i from rv)
    exact call_abs pins s σ H _ us Q I r ⟨i, rfl, q _ _ _ (.refl sm) rfl⟩
  · cases e
theorem sum_tup {pins : List (Addr × Obj)} {s : Shared} {σ : L2.St} {a : Addr} {ns : List Int} {Q : VK} (hc : X.calm = true) (I : L2.Inv X pins σ H s) (hs : SqT X.K H a (ns.map V.int)) (q : Q (.int ns.sum) H) :
    wpAny (model X.prog X.w) X.A (call (.builtin "sum") [.ref a]) (EP X pins σ Q) X.xe s := by
  obtain ⟨us, rv, ht, _⟩ := I.tuple hs
  obtain ⟨xs, hx⟩ := (rv.ints).allInts.items
  have hn := (rv.ints).numsOf
  have hx : us.toArray = intItems xs := hx
  rw [show us = us.toArray.toList by simp, hx, nums_intItems] at hn
  rw [hx] at ht
  refine PySem.W.ktm_sumG (I.ok.hd hc) (show s.heap.IsTuple a (intItems xs) from ht) fun h' tk t' hk => ?_
  rw [preSum_eq, List.take_of_length_le (by simp), hn]
  exact ⟨.int _, H, I.kept hk, ⟨_, rfl⟩, q⟩
theorem cb_sum (hc : X.calm = true) : CallR X (.builtin "sum") (rOp1 X.K bSum) := by
  intro pins s σ H xs us Q I r ⟨F, β, h, rs, H₀, r', sm, gd, rr, e, q⟩
  unfold bSum at e
  split at e
  · rename_i ns hn
    cases e
    obtain ⟨a, rfl, q1⟩ := ints1_of sm gd rr hn
    have fin := q _ _ _ (.refl sm) (rfl : RR X.K F β H H (.d (.int ns.sum)) (.int ns.sum))
    rcases q1 with q1 | q1
    · exact cr_sum hc pins s σ H _ us Q I r ⟨a, ns, rfl, q1, fin⟩
    · rw [Vals.ref1 r]
      exact sum_tup hc I q1 fin
  · cases e
theorem cb_mn2 (hc : X.calm = true) : CallR X (.builtin "min") (rOp1 X.K bMn2) := by
  intro pins s σ H xs us Q I r ⟨F, β, h, rs, H₀, r', sm, gd, rr, e, q⟩
  unfold bMn2 at e
  split at e
  · rename_i i j
    cases e
    obtain ⟨v, w, rfl, r1, r2⟩ := rv_of2 rr rfl
    cases (show v = .int i from r1)
    cases (show w = .int j from r2)
    exact call_min2 hc pins s σ H _ us Q I r ⟨i, j, rfl, q _ _ _ (.refl sm) rfl⟩
  · cases e
theorem cb_mx2 (hc : X.calm = true) : CallR X (.builtin "max") (rOp1 X.K bMx2) := by
  intro pins s σ H xs us Q I r ⟨F, β, h, rs, H₀, r', sm, gd, rr, e, q⟩
  unfold bMx2 at e
  split at e
  · rename_i i j
    cases e
    obtain ⟨v, w, rfl, r1, r2⟩ := rv_of2 rr rfl
    cases (show v = .int i from r1)
    cases (show w = .int j from r2)
    exact call_max2 hc pins s σ H _ us Q I r ⟨i, j, rfl, q _ _ _ (.refl sm) rfl⟩
  · cases e
theorem cb_lst : CallR X (.type "list") (rOp1 X.K bLst) := by
  intro pins s σ H xs us Q I r ⟨F, β, h, rs, H₀, r', sm, gd, rr, e, q⟩
  unfold bLst at e
  split at e
  · rename_i ds hd
    cases e
    obtain ⟨a, ws, rfl, q1, w⟩ := seq1_of sm gd rr hd
    exact call_list_of pins s σ H _ us Q I r ⟨a, ws, rfl, q1, new_lst sm w q⟩
  · cases e
theorem cb_tup : CallR X (.type "tuple") (rOp1 X.K bTup) := by
  intro pins s σ H xs us Q I r ⟨F, β, h, rs, H₀, r', sm, gd, rr, e, q⟩
  unfold bTup at e
  split at e
  case h_2 => cases e
  rename_i ds hd
  cases e
  unfold seq1 at hd
  split at hd
  case h_2 => cases hd
  rename_i x
  obtain ⟨v, rfl, rv⟩ := rv_of1 rr rfl
  unfold viewS at hd
  split at hd
  · rename_i l hl
    cases hd
    obtain ⟨a, ws, rfl, q1, q2, w⟩ := viewT_of (K := X.K) sm rv hl
    exact call_tuple_of pins s σ H _ us Q I r ⟨a, ws, rfl, .inr ⟨q1, q _ _ _ (.refl sm) ⟨a, ws, rfl, q2, w⟩⟩⟩
  · obtain ⟨a, ws, rfl, q1, w⟩ := viewL_of sm gd rv hd
    exact call_tuple_of pins s σ H _ us Q I r ⟨a, ws, rfl, .inl ⟨.inl q1, new_tup sm gd w q⟩⟩
theorem cb_xtup : CallR X (.type "tuple") (rOp1 X.K bXtup) := by
  intro pins s σ H xs us Q I r ⟨F, β, h, rs, H₀, r', sm, gd, rr, e, q⟩
  unfold bXtup at e
  split at e
  case h_2 => cases e
  rename_i x
  split at e
  case h_2 => cases e
  rename_i ds hd
  cases e
  obtain ⟨v, rfl, rv⟩ := rv_of1 rr rfl
  obtain ⟨a, ws, rfl, q1, w⟩ := viewL_of sm gd rv hd
  rw [Vals.ref1 r]
  obtain ⟨its, r', pl, hz⟩ := I.list (.inl q1)
  have hlen := r'.length
  refine call_tuple_list pl.isList (fun h' kp => ?_) (by simp only [List.size_toArray] <;> omega)
  have I1 : L2.Inv X pins σ H { s with heap := h' } := I.kept (t' := s.toks) kp
  have I2 : L2.Inv X pins σ (upd H h'.objs.size (.frz { cls := .type "tuple", data := .seq its.toArray } (.tup ws))) { s with heap := h'.push { cls := .type "tuple", data := .seq its.toArray } } :=
    I1.laid (t' := s.toks) (fun b o e => Heap.get?_push_of_some _ e) (Nat.le_refl _) ⟨Heap.get?_push_size _ rfl, (show ObjOk X.prog X.w _ _ _ (.tup ws) from ⟨hz, its, r', IsTup.new _ _⟩)⟩
  have n := I1.hok.fresh (Nat.le_refl _)
  have ps := PStep.known (o := .frz { cls := .type "tuple", data := .seq its.toArray } (.tup ws)) sm n
  refine ⟨.ref h'.objs.size, _, I2, rfl, q _ _ _ ps ⟨_, ws, rfl, ⟨fun z => ?_, _, rfl, upd_same⟩, VRs.ext ps.extb _ _ w⟩⟩
  obtain ⟨_, vs', _, _, _, f, _⟩ := gd.mem z
  have := sm _ _ f
  rw [n] at this; cases this
theorem cb_int : CallR X (.type "int") (rOp1 X.K bInt) := by
  intro pins s σ H xs us Q I r ⟨F, β, h, rs, H₀, r', sm, gd, rr, e, q⟩
  unfold bInt at e
  split at e
  · rename_i i
    cases e
    obtain ⟨v, rfl, rv⟩ := rv_of1 rr rfl
    cases (show v = .int i from rv)
    exact call_int1 pins s σ H _ us Q I r (.inl ⟨i, rfl, q _ _ _ (.refl sm) rfl⟩)
  · rename_i i
    cases e
    obtain ⟨v, rfl, rv⟩ := rv_of1 rr rfl
    cases (show v = .bl i from rv)
    exact call_int1 pins s σ H _ us Q I r (.inr ⟨i, rfl, q _ _ _ (.refl sm) rfl⟩)
  · cases e
theorem cb_str : CallR X (.type "str") (rOp1 X.K bStr) := by
  intro pins s σ H xs us Q I r ⟨F, β, h, rs, H₀, r', sm, gd, rr, e, q⟩
  unfold bStr at e
  split at e
  · rename_i i
    split at e
    · rename_i hl
      cases e
      obtain ⟨v, rfl, rv⟩ := rv_of1 rr rfl
      cases (show v = .int i from rv)
      refine call_str_int pins s σ H _ us Q I r ⟨i, rfl, hl, q _ _ _ (.refl sm) ?_⟩
      show V.str _ = V.str (PyData.shown (.int i))
      rw [PyData.shown]
    · cases e
  · cases e
theorem bools1_of {K : Kf} {rs : List R} {vs : List V} {ns : List Bool} (sm : Same F H) (gd : Good K F β h) (rr : RRs K F β H₀ H rs vs) (e : bools1 rs h = some ns) : ∃ a, vs = [.ref a] ∧ SqL K H a (ns.map V.bl) := by
  unfold bools1 at e
  split at e
  · split at e
    · rename_i x _ ds hd
      obtain ⟨v, rfl, rv⟩ := rv_of1 rr rfl
      obtain ⟨a, ws, rfl, q, w⟩ := viewL_of sm gd rv hd
      have z := w.boolsD e
      subst z
      exact ⟨a, rfl, .inl q⟩
    · cases e
  · cases e
theorem cb_any (hc : X.calm = true) : CallR X (.builtin "any") (rOp1 X.K bAny) := by
  intro pins s σ H xs us Q I r ⟨F, β, h, rs, H₀, r', sm, gd, rr, e, q⟩
  unfold bAny at e
  split at e
  · rename_i ns hn
    cases e
    obtain ⟨a, rfl, q1⟩ := bools1_of sm gd rr hn
    exact cr_any hc pins s σ H _ us Q I r ⟨a, ns, rfl, q1, q _ _ _ (.refl sm) rfl⟩
  · cases e
theorem cb_all (hc : X.calm = true) : CallR X (.builtin "all") (rOp1 X.K bAll) := by
  intro pins s σ H xs us Q I r ⟨F, β, h, rs, H₀, r', sm, gd, rr, e, q⟩
  unfold bAll at e
  split at e
  · rename_i ns hn
    cases e
    obtain ⟨a, rfl, q1⟩ := bools1_of sm gd rr hn
    exact cr_all hc pins s σ H _ us Q I r ⟨a, ns, rfl, q1, q _ _ _ (.refl sm) rfl⟩
  · cases e
/-! ### min, max of ints -/
theorem min_eq : ∀ (r : List Int) (n m : Int), m ∈ n :: r → (∀ y, y ∈ n :: r → m ≤ y) → m = r.foldl min n
  | [], n, m, h, _ => by simpa using h
  | x :: r, n, m, h, k => by
    rw [List.foldl_cons]
    refine min_eq r (min n x) m ?_ fun y hy => ?_
    · have h1 := k n (by simp)
      have h2 := k x (by simp)
      simp only [List.mem_cons] at h ⊢
      rcases h with h | h | h
      · left; omega
      · left; omega
      · exact .inr h
    · rcases List.mem_cons.mp hy with z | z
      · have h1 := k n (by simp)
        have h2 := k x (by simp)
        omega
      · exact k y (by simp [z])
theorem max_eq : ∀ (r : List Int) (n m : Int), m ∈ n :: r → (∀ y, y ∈ n :: r → y ≤ m) → m = r.foldl max n
  | [], n, m, h, _ => by simpa using h
  | x :: r, n, m, h, k => by
    rw [List.foldl_cons]
    refine max_eq r (max n x) m ?_ fun y hy => ?_
    · have h1 := k n (by simp)
      have h2 := k x (by simp)
      simp only [List.mem_cons] at h ⊢
      rcases h with h | h | h
      · left; omega
      · left; omega
      · exact .inr h
    · rcases List.mem_cons.mp hy with z | z
      · have h1 := k n (by simp)
        have h2 := k x (by simp)
        omega
      · exact k y (by simp [z])
theorem alike_ints1 : ∀ ns : List Int, PySem.W.AllAlike (ns.map PyData.int) := by
  intro ns x hx y hy
  obtain ⟨i, _, rfl⟩ := List.mem_map.mp hx
  obtain ⟨j, _, rfl⟩ := List.mem_map.mp hy
  rfl
end
end MP
end

section
set_option Elab.async false
set_option linter.all false
set_option maxRecDepth 100000
set_option maxHeartbeats 4000000
namespace MP
open PySem PySem.Spec L2 PyProof.Rows
open PySem.W (EachIs AllAlike Sortable alike alikeAll dataLe TotalLe sameRank)

/-! ## sorting -/
section
variable {α : Type} {le : α → α → Bool}
theorem insBy_mem (x y : α) : ∀ l : List α, y ∈ insBy le x l ↔ y = x ∨ y ∈ l
  | [] => by simp [insBy]
  | z :: r => by
    unfold insBy
    split
    · simp
    · rw [List.mem_cons, insBy_mem x y r, List.mem_cons]
      constructor
      · rintro (h | h | h)
        · exact .inr (.inl h)
        · exact .inl h
        · exact .inr (.inr h)
      · rintro (h | h | h)
        · exact .inr (.inl h)
        · exact .inl h
        · exact .inr (.inr h)
theorem insBy_pw (h : TotalLe le) (x : α) : ∀ l : List α, l.Pairwise (fun a b => le a b = true) → (insBy le x l).Pairwise (fun a b => le a b = true)
  | [], _ => by simp [insBy]
  | z :: r, p => by
    unfold insBy
    have p' := List.pairwise_cons.mp p
    split
    · rename_i hx
      refine List.pairwise_cons.mpr ⟨fun a ha => ?_, p⟩
      rcases List.mem_cons.mp ha with e | e
      · rw [e]; exact hx
      · exact h.trans _ _ _ hx (p'.1 a e)
    · rename_i hx
      refine List.pairwise_cons.mpr ⟨fun a ha => ?_, insBy_pw h x r p'.2⟩
      rcases (insBy_mem x a r).mp ha with e | e
      · rcases h.total x z with q | q
        · exact absurd q hx
        · rw [e]; exact q
      · exact p'.1 a e
theorem insBy_flt (h : TotalLe le) (c x : α) : ∀ l : List α, (insBy le x l).filter (sameRank le c) = (x :: l).filter (sameRank le c)
  | [] => rfl
  | z :: r => by
    unfold insBy
    split
    · rfl
    · rename_i hx
      rw [List.filter_cons, insBy_flt h c x r, List.filter_cons, List.filter_cons (xs := z :: r), List.filter_cons (xs := r)]
      by_cases cz : sameRank le c z = true
      · have cx : ¬ sameRank le c x = true := fun cx => by
          simp only [PySem.W.sameRank, Bool.and_eq_true] at cz cx
          exact hx (h.trans _ _ _ cx.2 cz.1)
        simp [cz, cx]
      · by_cases cx : sameRank le c x = true <;> simp [cz, cx]
theorem isort_eq (h : TotalLe le) (l : List α) : isort le l = l.mergeSort le := by
  refine PySem.W.sort_unique h ?_ ?_
  · induction l with
    | nil => simp [isort]
    | cons x r ih => exact insBy_pw h x _ ih
  · intro c
    induction l with
    | nil => rfl
    | cons x r ih =>
      unfold isort
      rw [insBy_flt h, List.filter_cons, List.filter_cons, ih]
end
theorem flat_all {k : Nat} (ih : ∀ p q : PyData, flatI k p = true → flatI k q = true → alike p q = true) : ∀ xs ys : List PyData, xs.all (flatI k) = true → ys.all (flatI k) = true → alikeAll xs ys = true
  | [], _, _, _ => by simp [PySem.W.alikeAll]
  | _ :: _, [], _, _ => by simp [PySem.W.alikeAll]
  | x :: r, y :: s, hp, hq => by
    rw [List.all_cons, Bool.and_eq_true] at hp hq
    simp only [PySem.W.alikeAll, Bool.and_eq_true]
    exact ⟨ih x y hp.1 hq.1, flat_all ih r s hp.2 hq.2⟩
theorem flat_alike : ∀ (k : Nat) (p q : PyData), flatI k p = true → flatI k q = true → alike p q = true
  | 0, .int _, .int _, _, _ => rfl
  | k + 1, .tuple xs, .tuple ys, hp, hq => flat_all (flat_alike k) xs ys hp hq
theorem alikes2_all : ∀ ps : List PyData, alikes2 ps = true → AllAlike ps
  | [], _ => fun d hd => by simp at hd
  | x :: r, h => by
    unfold alikes2 at h
    rw [Bool.and_eq_true, Bool.and_eq_true] at h
    obtain ⟨⟨h1, h2⟩, h3⟩ := h
    rw [List.all_eq_true] at h2
    have ih := alikes2_all r h3
    intro d hd e he
    rcases List.mem_cons.mp hd with z | z <;> rcases List.mem_cons.mp he with w | w
    · subst z w; exact h1
    · subst z
      have := h2 e w
      rw [Bool.and_eq_true] at this
      exact this.1
    · subst w
      have := h2 d z
      rw [Bool.and_eq_true] at this
      exact this.2
    · exact ih d z e w
theorem alikes_all {ps : List PyData} (h : alikes ps = true) : AllAlike ps := by
  unfold alikes at h
  have fl : ∀ k, ps.all (flatI k) = true → AllAlike ps := fun k h d hd e he => flat_alike k d e (List.all_eq_true.mp h d hd) (List.all_eq_true.mp h e he)
  rw [Bool.or_eq_true, Bool.or_eq_true, Bool.or_eq_true, Bool.or_eq_true] at h
  rcases h with h | h | h | h | h
  · exact fl _ h
  · exact fl _ h
  · exact fl _ h
  · exact fl _ h
  · exact alikes2_all ps h
theorem sortable_of {ps : List PyData} (h : (ps.all tupNE || ps.all plainK) = true) : Sortable ps := by
  rw [Bool.or_eq_true] at h
  rcases h with h | h
  · refine .inl fun d hd => ?_
    have := List.all_eq_true.mp h d hd
    unfold tupNE at this
    split at this
    · exact ⟨_, _, rfl⟩
    · cases this
  · refine .inr fun d hd => ?_
    have := List.all_eq_true.mp h d hd
    cases d with
    | none => cases this
    | tuple xs => cases this
    | _ => exact ⟨by simp, by simp⟩
section
variable {X : Cx} {pins : List (Addr × Obj)} {s : Shared} {σ : L2.St} {F H H₀ : Hp} {β : List Addr} {h : Hh}
/-- the values of a list, and their data -/
theorem each_of (I : L2.Inv X pins σ H s) (sm : Same F H) (gd : Good X.K F β h) : ∀ {ds : List D} {ws : List V} {ps : List PyData} {its : List Value}, VRs X.K F β ds ws → pys h ds = some ps → Vals ws its →
    EachIs (fun (u : Value) (b : D × PyData) => (∃ v, RelV v u ∧ VR X.K F β b.1 v) ∧ ∃ as, Reads s.heap u b.2 as) its (ds.zip ps) ∧ (ds.zip ps).map (·.2) = ps ∧ ps.length = ds.length
  | [], _, ps, its, w, e, r => by
    cases w; cases r
    cases (show some [] = some ps from e)
    exact ⟨.nil, rfl, rfl⟩
  | d :: ds, _, ps, its, ⟨v, ws, e1, w1, w2⟩, e, r => by
    subst e1
    obtain ⟨p, qs, rfl, ep, eq⟩ := allO_cons (show allO (py h deep d :: ds.map (py h deep)) = some ps from e)
    cases r with
    | cons rx rr =>
      obtain ⟨h1, h2, h3⟩ := each_of I sm gd w2 eq rr
      obtain ⟨as, rd⟩ := Dp.reads I _ _ _ (dp_of sm gd deep d v p w1 ep) rx
      refine ⟨.cons ⟨⟨v, rx, w1⟩, as, rd⟩ h1, ?_, ?_⟩
      · rw [List.zip_cons_cons, List.map_cons, h2]
      · rw [List.length_cons, List.length_cons, h3]
theorem out_of {bs : List (D × PyData)} : ∀ {out : List Value}, EachIs (fun (u : Value) (b : D × PyData) => ∃ v, RelV v u ∧ VR X.K F β b.1 v) out bs → ∃ ws, Vals ws out ∧ VRs X.K F β (bs.map (·.1)) ws := by
  intro out e
  induction e with
  | nil => exact ⟨[], .nil, rfl⟩
  | cons h1 _ ih =>
    obtain ⟨v, r, w⟩ := h1
    obtain ⟨ws, r2, w2⟩ := ih
    exact ⟨v :: ws, .cons r r2, ⟨v, ws, rfl, w, w2⟩⟩
/-- a list or a tuple as the heap holds it -/
theorem seq_obj (I : L2.Inv X pins σ H s) {a : Addr} {ws : List V} (q : SqL X.K H a ws ∨ SqT X.K H a ws) : ∃ (T : String) (o : Obj) (its : List Value) (n : Nat), (T = "list" ∨ T = "tuple") ∧ s.heap.get? a = some o ∧ o.cls = .type T ∧ o.data = .seq its.toArray n ∧ Vals ws its ∧ ws.length ≤ sizeLine := by
  rcases q with q | q
  · obtain ⟨its, r, pl, hz⟩ := I.list q
    obtain ⟨o, ho, hc, n, hd⟩ := pl.isList
    exact ⟨_, o, its, n, .inl rfl, ho, hc, hd, r, hz⟩
  · obtain ⟨its, r, pl, hz⟩ := I.tuple q
    obtain ⟨o, ho, hc, n, hd⟩ := pl
    exact ⟨_, o, its, n, .inr rfl, ho, hc, hd, r, hz⟩
theorem cb_srt (hu : X.A.units + 65 < cLine) : CallR X (.builtin "sorted") (rOp1 X.K bSrt) := by
  intro pins s σ H xs us Q I r ⟨F, β, h, rs, H₀, r', sm, gd, rr, e, q⟩
  unfold bSrt at e
  split at e
  case h_2 => cases e
  rename_i ds hd
  obtain ⟨a, ws, rfl, q1, w⟩ := seq1_of sm gd rr hd
  unfold srtD at e
  split at e
  case h_2 => cases e
  rename_i ps hp
  split at e
  case isFalse => cases e
  rename_i hc
  cases e
  rw [Bool.and_eq_true, Bool.and_eq_true, Bool.and_eq_true] at hc
  obtain ⟨⟨⟨c1, c2⟩, c3⟩, c4⟩ := hc
  have c1 : ds.length ≤ sizeLine := of_decide_eq_true c1
  rw [Vals.ref1 r]
  obtain ⟨T, o, its, n, hT, ho, hcl, hdt, rv, hz⟩ := seq_obj I q1
  have hlen := rv.length
  refine call_function_entry_kw kind_sorted plain_sorted entry_sorted (args_sorted1 _) ?_
  unfold Builtin.«sorted»
  refine wpAny_bind (m := checkCount "sorted" 1 1 _) (wpAny_pure ?_)
  refine wpAny_bind (wpAny_collect_seq a hT ho hcl hdt (fun h' k => ?_) (by rw [List.size_toArray]; omega))
  show wpAny (model X.prog X.w) X.A.in1 (newList its >>= _) _ _ _
  refine wpAny_bind (wpAny_newList ?_ (by omega))
  obtain ⟨he, em, el⟩ := each_of I sm gd w hp rv
  have hat : (h'.push (seqObj "list" its.toArray 0)).get? h'.objs.size = some (seqObj "list" its.toArray 0) := Heap.get?_push_size _ rfl
  have kp : ∀ b o', s.heap.get? b = some o' → (h'.push (seqObj "list" its.toArray 0)).get? b = some o' := fun b o' z => Heap.get?_push_of_some _ (k b o' z)
  have ne : ∀ {b : Addr} {o' : Obj}, s.heap.get? b = some o' → b ≠ h'.objs.size := fun {b o'} z => Nat.ne_of_lt (Heap.lt_size (k b o' z))
  have kp2 : ∀ b o', s.heap.get? b = some o' → (PySem.W.sortingHeap (h'.push (seqObj "list" its.toArray 0)) h'.objs.size its).get? b = some o' := fun b o' z => PySem.W.sortingHeap_old (ne z) (kp b o' z)
  have he2 : EachIs (fun v (b : D × PyData) => ∃ as, Reads (PySem.W.sortingHeap (h'.push (seqObj "list" its.toArray 0)) h'.objs.size its) v b.2 as) its (ds.zip ps) := he.mono fun _ _ ⟨_, as, rd⟩ => ⟨as, PyProof.Rows.Reads.keeps kp2 rd⟩
  have hal : AllAlike ((ds.zip ps).map fun b => b.2) := by rw [em]; exact alikes_all c2
  have hso : Sortable ((ds.zip ps).map fun b => b.2) := by rw [em]; exact sortable_of c3
  have hdep : ∀ d, d ∈ ((ds.zip ps).map fun b => b.2) → X.A.in1.in1.units + d.depth < cLine := by
    rw [em]
    intro d hd
    have := of_decide_eq_true (List.all_eq_true.mp c4 d hd)
    show X.A.units + 1 + 1 + d.depth < cLine
    omega
  have S : PySem.W.SortsAt X.prog X.w X.A.in1.in1 { s with heap := PySem.W.sortingHeap (h'.push (seqObj "list" its.toArray 0)) h'.objs.size its } (PySem.W.dataKind (PySem.W.sortingHeap (h'.push (seqObj "list" its.toArray 0)) h'.objs.size its) ((ds.zip ps).map fun b => b.2)) its :=
    PySem.W.SortsAt.data (s := { s with heap := PySem.W.sortingHeap (h'.push (seqObj "list" its.toArray 0)) h'.objs.size its }) (PySem.W.each_map (R := fun v d => ∃ as, Reads (PySem.W.sortingHeap (h'.push (seqObj "list" its.toArray 0)) h'.objs.size its) v d as) (fun b : D × PyData => b.2) he2) hal hso hdep
  have hout := PySem.W.sortVals_data (R := fun (u : Value) (b : D × PyData) => ∃ v, RelV v u ∧ VR X.K F β b.1 v) false (he.mono fun _ _ z => z.1) he2 hal
  have hout : EachIs (fun u b => ∃ v, RelV v u ∧ VR X.K F β b.1 v) _ (isort (dataLe false fun b : D × PyData => b.2) (ds.zip ps)) := (isort_eq (PySem.W.sortLe_total _ _ _) (ds.zip ps)).symm ▸ hout
  obtain ⟨ws2, rv2, w2⟩ := out_of hout
  have final : EP X pins σ Q (.ref h'.objs.size) { s with heap := sortedHeap (h'.push (seqObj "list" its.toArray 0)) h'.objs.size its (PySem.W.sortVals (PySem.W.dataKind (PySem.W.sortingHeap (h'.push (seqObj "list" its.toArray 0)) h'.objs.size its) ((ds.zip ps).map fun b => b.2)) false its its).toArray } := by
    obtain ⟨c', hc'⟩ := sortedHeap_at (vs := its) (out := (PySem.W.sortVals (PySem.W.dataKind (PySem.W.sortingHeap (h'.push (seqObj "list" its.toArray 0)) h'.objs.size its) ((ds.zip ps).map fun b => b.2)) false its its).toArray) hat
    have I1 : L2.Inv X pins σ H { s with heap := h' } := I.kept (t' := s.toks) k
    have kp3 : ∀ b o', h'.get? b = some o' → (h'.push (seqObj "list" its.toArray 0)).get? b = some o' := fun b o' z => Heap.get?_push_of_some _ z
    refine ⟨.ref h'.objs.size, _, I1.laid (t' := s.toks) (o := .lst ws2) (fun b o' z => (sortedHeap_old (Nat.ne_of_lt (Heap.lt_size z)) (Heap.lt_size (kp3 b o' z))).trans (kp3 b o' z)) (Nat.le_refl _) ⟨?_, _, c', rv2, hc'⟩, rfl, new_lst sm w2 q _ (I1.hok.fresh (Nat.le_refl _))⟩
    have l1 := rv2.length
    rw [PySem.W.sortVals_length false rfl] at l1
    omega
  refine wpAny_bind (wpAny_holding (wpAny_call_entry_kw slot_list_sort ⟨_, hat, rfl⟩ entry_list_sort ?_ (args_list_sort _)))
  refine wpAny_mono (PySem.W.list_sort_vals (P := fun f s' => f = .done (.ret .none) ∧ EP X pins σ Q (.ref h'.objs.size) s') (a := h'.objs.size) (n := 0) (s := { s with heap := h'.push (seqObj "list" its.toArray 0) }) hat S (by omega) ⟨rfl, final⟩) (fun f s' hf => ?_) fun _ _ e => e
  obtain ⟨rfl, hq⟩ := hf
  exact ⟨_, rfl, wpAny_pure ⟨_, rfl, hq⟩⟩
end
end MP
end

section
set_option Elab.async false
set_option linter.all false
set_option maxRecDepth 100000
set_option maxHeartbeats 4000000
namespace MP
open PySem PySem.Spec L2 PyProof.Rows
open PySem.W (EachIs AllAlike Sortable alike alikeAll dataLe TotalLe sameRank)
section
variable {X : Cx} {pins : List (Addr × Obj)} {s : Shared} {σ : L2.St} {F H H₀ : Hp} {β : List Addr} {h : Hh}
/-! ### min, max of ints -/
theorem reads_ints {hp : Heap} : ∀ {ns : List Int} {us : List Value}, Vals (ns.map V.int) us → ReadsAll hp us (ns.map PyData.int) []
  | [], _, r => by cases r; exact .nil
  | n :: ns, _, r => by
    cases r with
    | cons rx rr =>
      obtain ⟨t, rfl⟩ := rx
      exact .cons (as := []) (bs := []) (.int n t) (reads_ints rr)
theorem ints_alikeA (ns : List Int) : PySem.W.AlikeAll (ns.map PyData.int) := by
  refine ⟨fun x hx y hy => ?_, fun x hx => ?_⟩
  · obtain ⟨i, _, rfl⟩ := List.mem_map.mp hx
    obtain ⟨j, _, rfl⟩ := List.mem_map.mp hy
    rfl
  · obtain ⟨i, _, rfl⟩ := List.mem_map.mp hx
    exact nofun
theorem reads_int {hp : Heap} {v : Value} {n : Int} {bs : List Addr} (r : Reads hp v (.int n) bs) : ∃ t, v = .int n t := by
  cases r with
  | int _ t => exact ⟨t, rfl⟩
/-! ### min, max of alike data -/
section
variable {α : Type}
theorem best_get (f : PyData → PyData → Bool) : ∀ (ds : List D) (ps : List PyData) (d : D) (p : PyData), ds.length = ps.length →
    bestD f d p ds ps = ((ds.zip ps).foldl (fun a y => if f y.2 a.2 then y else a) (d, p)).1
  | [], [], _, _, _ => rfl
  | e :: ds, q :: ps, d, p, z => by
    unfold bestD
    rw [List.zip_cons_cons, List.foldl_cons]
    by_cases h : f q p = true
    · rw [if_pos h, if_pos h]; exact best_get f ds ps e q (by simpa using z)
    · rw [if_neg h, if_neg h]; exact best_get f ds ps d p (by simpa using z)
  | [], _ :: _, _, _, z => by simp at z
  | _ :: _, [], _, _, z => by simp at z
theorem zip_getD (ds : List D) (ps : List PyData) (z : ds.length = ps.length) (i : Nat) : ((ds.zip ps).getD i (.non, .none)).2 = ps.getD i .none ∧ ((ds.zip ps).getD i (.non, .none)).1 = ds.getD i .non := by
  rw [List.getD_eq_getElem?_getD, List.getD_eq_getElem?_getD, List.getD_eq_getElem?_getD]
  by_cases h : i < ds.length
  · have h2 : i < ps.length := by omega
    have h3 : i < (ds.zip ps).length := by rw [List.length_zip]; omega
    rw [List.getElem?_eq_getElem h, List.getElem?_eq_getElem h2, List.getElem?_eq_getElem h3, List.getElem_zip]
    exact ⟨rfl, rfl⟩
  · have h2 : ps[i]? = none := List.getElem?_eq_none (by omega)
    have h3 : ds[i]? = none := List.getElem?_eq_none (by omega)
    have h4 : (ds.zip ps)[i]? = none := List.getElem?_eq_none (by rw [List.length_zip]; omega)
    rw [h2, h3, h4]
    exact ⟨rfl, rfl⟩
theorem best_at (f : PyData → PyData → Bool) (d : D) (p : PyData) (ds : List D) (ps : List PyData) (z : ds.length = ps.length) :
    (d :: ds)[argBest (fun i j => f ((p :: ps).getD i .none) ((p :: ps).getD j .none)) ps.length]? = some (bestD f d p ds ps) := by
  have zl : (ds.zip ps).length = ps.length := by rw [List.length_zip]; omega
  obtain ⟨h1, h2⟩ := PySem.W.argBest_fold (fun a b : D × PyData => f a.2 b.2) (D.non, PyData.none) (d, p) (ds.zip ps) ps.length (by omega)
  have tl : (ds.zip ps).take ps.length = ds.zip ps := by rw [← zl]; exact List.take_length
  rw [tl] at h2
  have hf : (fun i j => f (((d, p) :: ds.zip ps).getD i (.non, .none)).2 (((d, p) :: ds.zip ps).getD j (.non, .none)).2) = fun i j => f ((p :: ps).getD i .none) ((p :: ps).getD j .none) := by
    funext i j
    have a := fun i => (zip_getD (d :: ds) (p :: ps) (by simpa using z) i).1
    rw [List.zip_cons_cons] at a
    rw [a i, a j]
  rw [hf] at h1 h2
  generalize argBest (fun i j => f ((p :: ps).getD i .none) ((p :: ps).getD j .none)) ps.length = k at h1 h2 ⊢
  have b := (zip_getD (d :: ds) (p :: ps) (by simpa using z) k).2
  rw [List.zip_cons_cons, h2] at b
  rw [best_get f ds ps d p z, b, List.getD_eq_getElem?_getD, List.getElem?_eq_getElem (by simp only [List.length_cons]; omega)]
  rfl
end
open PySem.W in
theorem min_seq_at {prog : Program} {w : World} {A : Around} {E : Value → Shared → Prop} {s : Shared} (t : Bool) {l : Addr} {vs : Array Value} {x : PyData} {xs : List PyData} {as : List Addr} {Q : Value → Shared → Prop} (hh : A.handled = none) (hl : match t with | true => s.heap.IsTuple l vs | false => s.heap.IsList l vs) (hr : ReadsAll s.heap vs.toList (x :: xs) as) (ha : AlikeAll (x :: xs)) (hu : A.units + 1 + PyData.depthAll (x :: xs) < cLine)
    (h : ∀ v h' tk, vs[argBest (fun i j => dataLt ((x :: xs).getD i .none) ((x :: xs).getD j .none)) xs.length]? = some v → (∀ b o, s.heap.get? b = some o → h'.get? b = some o) → Q v { s with heap := h', toks := tk }) :
    wpAny (model prog w) A (call (.builtin "min") [.ref l]) Q E s := by
  have hn : vs.size = xs.length + 1 := readsAll_len hr
  have e1 : vs.size - 1 = xs.length := by omega
  cases t with
  | false =>
    refine call_min_walkH (iter_listW (A := A.in1) hh hl fun s₂ e W st hfp hw hk => ?_)
    refine ⟨_, _, _, _, _, _, _, s.heap, _, rfl, W, st, hfp, by omega, hw, hk, cmpIn_lt (A := A.in1) hr ha (by show A.units + 1 + _ < _; exact hu), fun v s' hP m => ?_⟩
    obtain ⟨h', tk, rfl, hk'⟩ := moved_old e rfl m
    rw [e1] at hP
    exact h v h' tk hP hk'
  | true =>
    refine call_min_walkH (iter_tupleW (A := A.in1) hh hl fun s₂ e W st hfp hw hk => ?_)
    refine ⟨_, _, _, _, _, _, _, s.heap, _, rfl, W, st, hfp, by omega, hw, hk, cmpIn_lt (A := A.in1) hr ha (by show A.units + 1 + _ < _; exact hu), fun v s' hP m => ?_⟩
    obtain ⟨h', tk, rfl, hk'⟩ := moved_old e rfl m
    rw [e1] at hP
    exact h v h' tk hP hk'
open PySem.W in
theorem max_seq_at {prog : Program} {w : World} {A : Around} {E : Value → Shared → Prop} {s : Shared} (t : Bool) {l : Addr} {vs : Array Value} {x : PyData} {xs : List PyData} {as : List Addr} {Q : Value → Shared → Prop} (hh : A.handled = none) (hl : match t with | true => s.heap.IsTuple l vs | false => s.heap.IsList l vs) (hr : ReadsAll s.heap vs.toList (x :: xs) as) (ha : AlikeAll (x :: xs)) (hu : A.units + 1 + PyData.depthAll (x :: xs) < cLine)
    (h : ∀ v h' tk, vs[argBest (fun i j => dataLt ((x :: xs).getD j .none) ((x :: xs).getD i .none)) xs.length]? = some v → (∀ b o, s.heap.get? b = some o → h'.get? b = some o) → Q v { s with heap := h', toks := tk }) :
    wpAny (model prog w) A (call (.builtin "max") [.ref l]) Q E s := by
  have hn : vs.size = xs.length + 1 := readsAll_len hr
  have e1 : vs.size - 1 = xs.length := by omega
  cases t with
  | false =>
    refine call_max_walkH (iter_listW (A := A.in1) hh hl fun s₂ e W st hfp hw hk => ?_)
    refine ⟨_, _, _, _, _, _, _, s.heap, _, rfl, W, st, hfp, by omega, hw, hk, cmpIn_gt (A := A.in1) hr ha (by show A.units + 1 + _ < _; exact hu), fun v s' hP m => ?_⟩
    obtain ⟨h', tk, rfl, hk'⟩ := moved_old e rfl m
    rw [e1] at hP
    exact h v h' tk hP hk'
  | true =>
    refine call_max_walkH (iter_tupleW (A := A.in1) hh hl fun s₂ e W st hfp hw hk => ?_)
    refine ⟨_, _, _, _, _, _, _, s.heap, _, rfl, W, st, hfp, by omega, hw, hk, cmpIn_gt (A := A.in1) hr ha (by show A.units + 1 + _ < _; exact hu), fun v s' hP m => ?_⟩
    obtain ⟨h', tk, rfl, hk'⟩ := moved_old e rfl m
    rw [e1] at hP
    exact h v h' tk hP hk'
theorem alike_of {ps : List PyData} (h1 : alikes ps = true) (h2 : ps.all nNone = true) : PySem.W.AlikeAll ps := by
  refine ⟨fun x hx y hy => alikes_all h1 x hx y hy, fun x hx => ?_⟩
  have := List.all_eq_true.mp h2 x hx
  intro z
  rw [z] at this
  cases this
theorem depth_le {ps : List PyData} (h : ps.all (fun p => decide (p.depth ≤ 40)) = true) : PyData.depthAll ps ≤ 40 := by
  induction ps with
  | nil => simp [PyData.depthAll]
  | cons p ps ih =>
    rw [List.all_cons, Bool.and_eq_true] at h
    have := of_decide_eq_true h.1
    have := ih h.2
    unfold PyData.depthAll
    omega
theorem reads_of (I : L2.Inv X pins σ H s) (sm : Same F H) (gd : Good X.K F β h) : ∀ {ds : List D} {ws : List V} {ps : List PyData} {its : List Value}, VRs X.K F β ds ws → pys h ds = some ps → Vals ws its → ∃ as, ReadsAll s.heap its ps as
  | [], _, ps, its, w, e, r => by
    cases w; cases r
    cases (show some [] = some ps from e)
    exact ⟨_, .nil⟩
  | d :: ds, _, ps, its, ⟨v, ws, e1, w1, w2⟩, e, r => by
    subst e1
    obtain ⟨p, qs, rfl, ep, eq⟩ := allO_cons (show allO (py h deep d :: ds.map (py h deep)) = some ps from e)
    cases r with
    | cons rx rr =>
      obtain ⟨as, rd⟩ := Dp.reads I _ _ _ (dp_of sm gd deep d v p w1 ep) rx
      obtain ⟨bs, rds⟩ := reads_of I sm gd w2 eq rr
      exact ⟨_, .cons rd rds⟩
theorem mnmx_of {f : PyData → PyData → Bool} {rs : List R} {xs : List V} {us : List Value} {r' : R} {id : String} {Q : VK} (I : L2.Inv X pins σ H s) (r : Vals xs us) (sm : Same F H) (gd : Good X.K F β h) (rr : RRs X.K F β H₀ H rs xs) (e : mnmxD f rs h = some r') (hu : X.A.units + 65 < cLine)
    (q : ∀ v F' H', PStep F H F' H' → RR X.K F' β H H' r' v → Q v H')
    (call : ∀ (t : Bool) (l : Addr) (vs : Array Value) (x : PyData) (xs : List PyData) (as : List Addr), (match t with | true => s.heap.IsTuple l vs | false => s.heap.IsList l vs) → ReadsAll s.heap vs.toList (x :: xs) as → PySem.W.AlikeAll (x :: xs) → X.A.units + 1 + PyData.depthAll (x :: xs) < cLine →
      (∀ v h' tk, vs[argBest (fun i j => f ((x :: xs).getD i .none) ((x :: xs).getD j .none)) xs.length]? = some v → (∀ b o, s.heap.get? b = some o → h'.get? b = some o) → EP X pins σ Q v { s with heap := h', toks := tk }) →
      wpAny (model X.prog X.w) X.A (PySem.call (.builtin id) [.ref l]) (EP X pins σ Q) X.xe s) : wpAny (model X.prog X.w) X.A (PySem.call (.builtin id) us) (EP X pins σ Q) X.xe s := by
  unfold mnmxD at e
  split at e
  case h_2 => cases e
  rename_i d ds hd
  split at e
  case h_2 => cases e
  rename_i p ps hp
  split at e
  case isFalse => cases e
  rename_i hc
  cases e
  rw [Bool.and_eq_true, Bool.and_eq_true] at hc
  obtain ⟨c1, c2, c3⟩ := hc
  obtain ⟨a, ws, rfl, q1, w⟩ := seq1_of sm gd rr hd
  rw [Vals.ref1 r]
  have hdp := depth_le c3
  have hlen : (d :: ds).length = (p :: ps).length := by
    have : ∀ {l : List D} {qs : List PyData}, pys h l = some qs → l.length = qs.length := fun {l} => by
      induction l with
      | nil => intro qs e; cases (show some [] = some qs from e); rfl
      | cons d l ih =>
        intro qs e
        obtain ⟨p, rs, rfl, _, e2⟩ := allO_cons (show allO (py h deep d :: l.map (py h deep)) = some qs from e)
        rw [List.length_cons, List.length_cons, ih e2]
    exact this hp
  have last : ∀ {its : List Value}, Vals ws its → ∀ v h' tk, its.toArray[argBest (fun i j => f ((p :: ps).getD i .none) ((p :: ps).getD j .none)) ps.length]? = some v → (∀ b o, s.heap.get? b = some o → h'.get? b = some o) → EP X pins σ Q v { s with heap := h', toks := tk } := fun {its} rv v h' tk hv k => by
    have hb := best_at f d p ds ps (by simpa using hlen)
    obtain ⟨z, hz, rz⟩ := w.get hb
    obtain ⟨u, hu, ru⟩ := rv.get hz
    rw [List.getElem?_toArray, hu] at hv
    cases hv
    exact ⟨z, H, I.kept k, ru, q z F H (.refl sm) rz⟩
  rcases q1 with q1 | q1
  · obtain ⟨its, rv, pl, hz⟩ := I.list q1
    obtain ⟨as, rd⟩ := reads_of I sm gd w hp rv
    exact call false a its.toArray p ps as pl.isList (by simpa using rd) (alike_of c1 c2) (by omega) (last rv)
  · obtain ⟨its, rv, pl, hz⟩ := I.tuple q1
    obtain ⟨as, rd⟩ := reads_of I sm gd w hp rv
    exact call true a its.toArray p ps as pl (by simpa using rd) (alike_of c1 c2) (by omega) (last rv)
theorem cb_mn (hc : X.calm = true) (hu : X.A.units + 65 < cLine) : CallR X (.builtin "min") (rOp1 X.K bMn) := by
  intro pins s σ H xs us Q I r ⟨F, β, h, rs, H₀, r', sm, gd, rr, e, q⟩
  unfold bMn at e
  split at e
  · rename_i n ns hn
    cases e
    obtain ⟨a, rfl, q1⟩ := ints1_of sm gd rr hn
    have fin := q _ _ _ (.refl sm) (rfl : RR X.K F β H H (.d (.int (ns.foldl min n))) (.int (ns.foldl min n)))
    rw [Vals.ref1 r]
    have last : ∀ (v : Value) (h' : Heap) (tk : Nat) (bs : List Addr), Reads h' v (PySem.W.minD (.int n) (ns.map PyData.int)) bs → (∀ b o, s.heap.get? b = some o → h'.get? b = some o) → EP X pins σ Q v { s with heap := h', toks := tk } := fun v h' tk bs rd k => by
      rw [PySem.W.minD_ints] at rd
      obtain ⟨t, rfl⟩ := reads_int rd
      exact ⟨.int _, H, I.kept k, ⟨t, rfl⟩, fin⟩
    have hd : PyData.depthAll ((n :: ns).map PyData.int) = 0 := PySem.W.depth_ints _
    rcases q1 with q1 | q1
    · obtain ⟨its, rv, pl, hz⟩ := I.list q1
      exact PySem.W.min_list_data (x := .int n) (xs := ns.map PyData.int) (as := []) (I.ok.hd hc) pl.isList (by simpa using reads_ints rv) (ints_alikeA (n :: ns)) (by rw [show (PyData.int n :: ns.map PyData.int) = (n :: ns).map PyData.int from rfl, hd]; omega) fun i v h' tk bs _ rd k => last v h' tk bs rd k
    · obtain ⟨its, rv, pl, hz⟩ := I.tuple q1
      exact PySem.W.min_tuple_data (x := .int n) (xs := ns.map PyData.int) (as := []) (I.ok.hd hc) (show s.heap.IsTuple a its.toArray from pl) (by simpa using reads_ints rv) (ints_alikeA (n :: ns)) (by rw [show (PyData.int n :: ns.map PyData.int) = (n :: ns).map PyData.int from rfl, hd]; omega) fun i v h' tk bs _ rd k => last v h' tk bs rd k
  · cases e
  · exact mnmx_of I r sm gd rr e hu q fun t l vs x xs as h1 h2 h3 h4 h5 => min_seq_at t (I.ok.hd hc) h1 h2 h3 h4 h5
theorem cb_mx (hc : X.calm = true) (hu : X.A.units + 65 < cLine) : CallR X (.builtin "max") (rOp1 X.K bMx) := by
  intro pins s σ H xs us Q I r ⟨F, β, h, rs, H₀, r', sm, gd, rr, e, q⟩
  unfold bMx at e
  split at e
  · rename_i n ns hn
    cases e
    obtain ⟨a, rfl, q1⟩ := ints1_of sm gd rr hn
    have fin := q _ _ _ (.refl sm) (rfl : RR X.K F β H H (.d (.int (ns.foldl max n))) (.int (ns.foldl max n)))
    rw [Vals.ref1 r]
    have last : ∀ (v : Value) (h' : Heap) (tk : Nat) (bs : List Addr), Reads h' v (PySem.W.maxD (.int n) (ns.map PyData.int)) bs → (∀ b o, s.heap.get? b = some o → h'.get? b = some o) → EP X pins σ Q v { s with heap := h', toks := tk } := fun v h' tk bs rd k => by
      rw [PySem.W.maxD_ints] at rd
      obtain ⟨t, rfl⟩ := reads_int rd
      exact ⟨.int _, H, I.kept k, ⟨t, rfl⟩, fin⟩
    have hd : PyData.depthAll ((n :: ns).map PyData.int) = 0 := PySem.W.depth_ints _
    rcases q1 with q1 | q1
    · obtain ⟨its, rv, pl, hz⟩ := I.list q1
      exact PySem.W.max_list_data (x := .int n) (xs := ns.map PyData.int) (as := []) (I.ok.hd hc) pl.isList (by simpa using reads_ints rv) (ints_alikeA (n :: ns)) (by rw [show (PyData.int n :: ns.map PyData.int) = (n :: ns).map PyData.int from rfl, hd]; omega) fun i v h' tk bs _ rd k => last v h' tk bs rd k
    · obtain ⟨its, rv, pl, hz⟩ := I.tuple q1
      exact PySem.W.max_tuple_data (x := .int n) (xs := ns.map PyData.int) (as := []) (I.ok.hd hc) (show s.heap.IsTuple a its.toArray from pl) (by simpa using reads_ints rv) (ints_alikeA (n :: ns)) (by rw [show (PyData.int n :: ns.map PyData.int) = (n :: ns).map PyData.int from rfl, hd]; omega) fun i v h' tk bs _ rd k => last v h' tk bs rd k
  · cases e
  · exact mnmx_of I r sm gd rr e hu q fun t l vs x xs as h1 h2 h3 h4 h5 => max_seq_at t (I.ok.hd hc) h1 h2 h3 h4 h5

/-! ### repr -/
theorem len_app (a b : Str) : (a ++ b).length = a.length + b.length := PySem.strLen_append a b
theorem textFrom_le : ∀ (ts : List Str) (k : Nat) (acc : Str), (textFrom k acc ts).length ≤ acc.length + piled ts
  | [], k, acc => by show acc.length ≤ _; omega
  | t :: r, k, acc => by
    have ih := textFrom_le r (k + 1) (acc ++ (if k > 0 then ", " else "" : String) ++ t)
    have e : (acc ++ (if k > 0 then ", " else "" : String) ++ t).length = acc.length + (if k > 0 then 2 else 0) + t.length := by
      rw [len_app, len_app]
      split <;> rfl
    show (textFrom (k + 1) _ r).length ≤ _
    rw [piled_cons]
    have : (if k > 0 then 2 else 0 : Nat) ≤ 2 := by split <;> omega
    omega
mutual
theorem room_le : ∀ p : PyData, p.hasDict = false → rOk p = true → p.shown.length ≤ room p
  | .none, _, _ => by decide
  | .bool b, _, _ => by cases b <;> decide
  | .int i, _, _ => by
    rw [PyData.shown]
    have := int_text_length_le (a := i) (k := i.natAbs.log2 + 1) (by omega) (by omega)
    show (Str.ofString (toString i)).length ≤ i.natAbs.log2 + 3
    rw [PySem.ofString_length]
    omega
  | .str x, _, h => by
    rw [PyData.shown]
    refine StrLaws.reprText_len x fun c hc => ?_
    unfold rOk at h
    exact of_decide_eq_true (List.all_eq_true.mp h c hc)
  | .list l, hd, h => by
    have ih := rooms_le l (by rw [PyData.hasDict] at hd; exact hd) (by unfold rOk at h; exact h)
    rw [PyData.shown]
    unfold listText
    rw [len_app]
    have := textFrom_le (PyData.shownAll l) 0 "["
    have e1 : ("[" : Str).length = 1 := by decide
    have e2 : ("]" : Str).length = 1 := by decide
    unfold room
    omega
  | .tuple l, hd, h => by
    have ih := rooms_le l (by rw [PyData.hasDict] at hd; exact hd) (by unfold rOk at h; exact h)
    rw [PyData.shown]
    unfold tupleText
    rw [len_app, len_app]
    have e1 : ("(" : Str).length = 1 := by decide
    have e2 : ((if (PyData.shownAll l).length == 1 then ",)" else ")" : String) : Str).length ≤ 2 := by split <;> decide
    have e3 : (Str.join ", " (PyData.shownAll l)).length ≤ piled (PyData.shownAll l) := by
      cases hs : PyData.shownAll l with
      | nil => decide
      | cons t r => have := join_length_add (t :: r) (by simp); omega
    unfold room
    omega
  | .dict _, hd, _ => by rw [PyData.hasDict] at hd; cases hd
theorem rooms_le : ∀ l : List PyData, PyData.hasDictAll l = false → rOks l = true → piled (PyData.shownAll l) ≤ rooms l
  | [], _, _ => by rw [PyData.shownAll]; decide
  | x :: r, hd, h => by
    rw [PyData.hasDictAll, Bool.or_eq_false_iff] at hd
    unfold rOks at h
    rw [Bool.and_eq_true] at h
    have h1 := room_le x hd.1 h.1
    have h2 := rooms_le r hd.2 h.2
    rw [PyData.shownAll, piled_cons]
    unfold rooms
    omega
end
theorem cb_repr (hg : X.A.guards = some []) (hu : X.A.units + 65 < cLine) : CallR X (.builtin "repr") (rOp1 X.K bRepr) := by
  intro pins s σ H xs us Q I r ⟨F, β, h, rs, H₀, r', sm, gd, rr, e, q⟩
  unfold bRepr at e
  split at e
  case h_2 => cases e
  rename_i x
  obtain ⟨v, rfl, rv⟩ := rv_of1 rr rfl
  unfold reprD at e
  split at e
  case h_2 => cases e
  rename_i p hp
  split at e
  case isFalse => cases e
  rename_i hcnd
  cases e
  rw [Bool.and_eq_true, Bool.and_eq_true, Bool.and_eq_true, Bool.and_eq_true] at hcnd
  obtain ⟨⟨⟨⟨c1, c2⟩, c3⟩, c4⟩, c5⟩ := hcnd
  have c2 : p.hasDict = false := by simpa using c2
  have c4 : p.depth ≤ 40 := of_decide_eq_true c4
  have c5 : room p ≤ sizeLine := of_decide_eq_true c5
  have hsz : p.shown.length ≤ sizeLine := Nat.le_trans (room_le p c2 c3) c5
  have fin := q (.str p.shown) _ _ (.refl sm) rfl
  cases r with
  | cons rx rn =>
    cases rn
    obtain ⟨as, rd⟩ := Dp.reads I p v _ (dp_R sm gd rv hp) rx
    have ref : ∀ a, Reads s.heap (.ref a) p as → wpAny (model X.prog X.w) X.A (call (.builtin "repr") [.ref a]) (EP X pins σ Q) X.xe s := fun a rd =>
      repr_of_reads' rd c1 (fun z => by rw [c2] at z; cases z) hg (by omega) (fun _ _ z => z) (fun h' u tk k => ⟨.str _, H, I.kept k, ⟨u, rfl⟩, fin⟩) hsz
    cases rd with
    | none => exact PySem.P.repr_of_none ⟨.str _, H, I.tok _, ⟨_, rfl⟩, fin⟩
    | bool b => exact PySem.P.repr_of_bool ⟨.str _, H, I.tok _, ⟨_, by cases b <;> rfl⟩, fin⟩
    | int i t => exact PySem.P.repr_of_int (by rw [PyData.showable] at c1; exact of_decide_eq_true c1) ⟨.str _, H, I.tok _, ⟨_, rfl⟩, fin⟩
    | str y t => exact PySem.P.repr_of_str ⟨.str _, H, I.tok _, ⟨_, rfl⟩, fin⟩ hsz
    | list h1 h2 h3 h4 => exact ref _ (.list h1 h2 h3 h4)
    | tuple h1 h2 h3 h4 => exact ref _ (.tuple h1 h2 h3 h4)
    | dict h1 h2 h3 h4 h5 => rw [PyData.hasDict] at c2; cases c2
end
end MP
end

section
set_option Elab.async false
set_option linter.all false
set_option maxRecDepth 100000
set_option maxHeartbeats 4000000
namespace MP
open PySem PySem.Spec L2 PyProof.Rows
/-- no starred one -/
def isStar : Expr → Bool
  | .Starred _ _ => true
  | _ => false
theorem star_cons (e : Expr) (es : List Expr) (env : Env) (h : isStar e = false) : starEach (e :: es) env = (false, eval e env) :: starEach es env := by
  cases e <;> first | rfl | cases h
theorem star_back (pos : Pos) (env : Env) : ∀ es : List Expr, es.all (fun e => !isStar e) = true → (backTo pos (starEach es env)).any (·.1) = false
  | [], _ => rfl
  | e :: es, h => by
    rw [List.all_cons, Bool.and_eq_true] at h
    rw [star_cons e es env (by simpa using h.1)]
    show (false || (backTo pos (starEach es env)).any (·.1)) = false
    rw [star_back pos env es h.2]
    rfl
section
variable {X : Cx} {pos p p2 : Pos} {x : Str} {e : Expr} {es : List Expr} {ds : DenL}
theorem bi_weak {b : BI} {g : B1} (hb : biD b = g) : ∀ σ H Q, tD X.K (kBi b ds) σ H Q → tCB (rOp1 X.K g) (tL X.K ds) σ H Q := fun σ H Q ⟨F, β, h, en, sm, gd, se, post⟩ => by
  refine bindLE sm gd se post fun rs vs F1 β1 H1 h1 sm1 st1 gd1 se1 rr1 nd1 post1 => ?_
  unfold ofO at post1
  split at post1
  · rename_i r e
    exact ⟨F1, β1, h1, rs, H, r, sm1, gd1, rr1, by rw [← hb]; exact e, fun v F' H' ps rr => post1 v F' β1 H' ps.sm ps.step (gd1.more ps.ff) rr⟩
  · exact post1.elim
theorem pd_biB {b : BI} {id : String} {g : B1} (hb : biD b = g) (hc : CallR X (.builtin id) (rOp1 X.K g)) (hg : Gl X x) (hm : X.mg x = none) (hv : bootBuiltins x = some (.builtin id)) (ha : PA X (e :: es) (tL X.K ds)) (hn : x ≠ "__name__") (hdb : (x == ("__debug__" : Str)) = false)
    (hs : (e :: es).all (fun e => !isStar e) = true) : PE X (.Call (.Name x p) (e :: es) [] pos) (tD X.K (kBi b ds)) := by
  rw [List.all_cons, Bool.and_eq_true] at hs
  exact PE_weak (pe_callB hc hg hm hv ha hn hdb (star_cons e es X.env (by simpa using hs.1)) (star_back pos X.env es hs.2)) (bi_weak hb)
theorem pd_biT {b : BI} {id : String} {g : B1} (hb : biD b = g) (hc : CallR X (.type id) (rOp1 X.K g)) (hg : Gl X x) (hm : X.mg x = none) (hv : bootBuiltins x = some (.type id)) (ha : PA X (e :: es) (tL X.K ds)) (hn : x ≠ "__name__") (hdb : (x == ("__debug__" : Str)) = false)
    (hs : (e :: es).all (fun e => !isStar e) = true) : PE X (.Call (.Name x p) (e :: es) [] pos) (tD X.K (kBi b ds)) := by
  rw [List.all_cons, Bool.and_eq_true] at hs
  exact PE_weak (pe_callTy hc hg hm hv ha hn hdb (star_cons e es X.env (by simpa using hs.1)) (star_back pos X.env es hs.2)) (bi_weak hb)

/-! ### isinstance -/
def tyD : D → String
  | .non => "NoneType"
  | .bl _ => "bool"
  | .int _ => "int"
  | .str _ => "str"
  | .rp _ => "str"
  | .tup _ => "tuple"
  | .lst _ => "list"
  | .ref _ => "list"
  | .dct _ _ => "dict"
  | .xt _ => "tuple"
theorem ty_of {F H : Hp} {β : List Addr} {h : Hh} {d : D} {v : V} (sm : Same F H) (gd : Good X.K F β h) (ok : okIs h d = true) (r : VR X.K F β d v) : TyX X.K H v (.type (tyD d)) := by
  cases d with
  | dct ks ds => cases ok
  | xt ds =>
    obtain ⟨a, vs, rfl, ⟨_, o, _, f⟩, _⟩ := r
    exact .fTuple (sm _ _ f)
  | non => cases (show v = .non from r); exact .base .non
  | bl b => cases (show v = .bl b from r); exact .base (.bl b)
  | int b => cases (show v = .int b from r); exact .base (.int b)
  | str b => cases (show v = .str b from r); exact .base (.str b)
  | rp b => cases (show v = .str b.shown from r); exact .base (.str _)
  | tup ds =>
    obtain ⟨a, vs, rfl, q, _⟩ := r
    rcases q with ⟨_, q⟩ | q
    · rcases Rd.same sm q with q | ⟨o, q⟩
      · exact .base (.tup q)
      · exact .fTuple q
    · rcases q with q | ⟨o, its, n, q, c, _⟩
      · rcases q with q | ⟨o, q⟩ <;> cases q
      · exact .kTuple q c
  | lst ds =>
    obtain ⟨a, vs, rfl, ⟨_, q⟩, _⟩ := r
    rcases Rd.same sm q with q | ⟨o, q⟩
    · exact .base (.lst q)
    · exact .base (.frz q)
  | ref n =>
    obtain ⟨a, q, rfl⟩ := r
    have ok : (match h[n]? with
      | some (.lst _) => true
      | _ => false) = true := ok
    split at ok
    · rename_i ds hd
      obtain ⟨vs, f, _⟩ := gd.at_ q hd
      exact .base (.lst (sm _ _ f))
    · cases ok
theorem ty_R {F H : Hp} {β : List Addr} {h : Hh} {r : R} {v : V} (sm : Same F H) (gd : Good X.K F β h) (ok : okIs h r.toD = true) (rv : RV X.K F β H r v) : TyX X.K H v (.type (tyD r.toD)) := by
  cases r with
  | d d => exact ty_of sm gd ok rv
  | fl ds =>
    obtain ⟨a, vs, rfl, _, q, _⟩ := rv
    exact .base (.lst q)
theorem kindB (f : D → Bool) (T : String) (hk : ∀ d, kitB (tyD d) T = some (f d)) : CallR X (.builtin "isinstance") (fun xs H Q => ∃ v, xs = [v, .ty T] ∧ rOp1 X.K (bIs f) [v] H Q) := by
  intro pins s σ H xs us Q I r ⟨v, ex, F, β, h, rs, H₀, r', sm, gd, rr, e, q⟩
  subst ex
  unfold bIs at e
  have key : ∀ R' : R, okIs h R'.toD = true → RV X.K F β H R' v → r' = .d (.bl (f R'.toD)) → wpAny (model X.prog X.w) X.A (call (.builtin "isinstance") us) (EP X pins σ Q) X.xe s := fun R' ok rv e2 => by
    subst e2
    exact call_isi pins s σ H _ us Q I r ⟨v, .ty T, _, _, _, rfl, .ty T, ty_R sm gd ok rv, kit_ty (hk _), q _ _ _ (.refl sm) rfl⟩
  split at e
  · rename_i y
    split at e
    case isFalse => cases e
    rename_i ok
    cases e
    obtain ⟨w, e2, rv⟩ := rv_of1 rr rfl
    cases e2
    exact key (.d y) ok rv rfl
  · rename_i y
    cases e
    obtain ⟨w, e2, rv⟩ := rv_of1 rr rfl
    cases e2
    exact key (.fl y) rfl rv rfl
  · cases e
theorem kk {f : D → Bool} {T : String} {b0 b1 b2 b3 b4 b5 : Bool} (h6 : kitB "dict" T = some false) (e6 : ∀ a b, f (.dct a b) = false) (e7 : ∀ b c, f (.xt b) = f (.tup c)) (h0 : kitB "NoneType" T = some b0) (h1 : kitB "bool" T = some b1) (h2 : kitB "int" T = some b2) (h3 : kitB "str" T = some b3) (h4 : kitB "tuple" T = some b4) (h5 : kitB "list" T = some b5)
    (e0 : f .non = b0) (e1 : ∀ b, f (.bl b) = b1) (e2 : ∀ b, f (.int b) = b2) (e3 : ∀ b, f (.str b) = b3) (e3' : ∀ b, f (.rp b) = b3) (e4 : ∀ b, f (.tup b) = b4) (e5 : ∀ b, f (.lst b) = b5) (e5' : ∀ b, f (.ref b) = b5) : ∀ d, kitB (tyD d) T = some (f d) := by
  intro d
  cases d with
  | non => rw [e0]; exact h0
  | bl b => rw [e1]; exact h1
  | int b => rw [e2]; exact h2
  | str b => rw [e3]; exact h3
  | rp b => rw [e3']; exact h3
  | tup b => rw [e4]; exact h4
  | lst b => rw [e5]; exact h5
  | ref b => rw [e5']; exact h5
  | dct a b => rw [e6]; exact h6
  | xt b => rw [e7 b [], e4]; exact h4
theorem kind_int : ∀ d, kitB (tyD d) "int" = some (isInt d) := kk (b0 := false) (b1 := true) (b2 := true) (b3 := false) (b4 := false) (b5 := false) (by decide +kernel) (fun _ _ => rfl) (fun _ _ => rfl) (by decide +kernel) (by decide +kernel) (by decide +kernel) (by decide +kernel) (by decide +kernel) (by decide +kernel) rfl (fun _ => rfl) (fun _ => rfl) (fun _ => rfl) (fun _ => rfl) (fun _ => rfl) (fun _ => rfl) fun _ => rfl
theorem kind_bool : ∀ d, kitB (tyD d) "bool" = some (isBool d) := kk (b0 := false) (b1 := true) (b2 := false) (b3 := false) (b4 := false) (b5 := false) (by decide +kernel) (fun _ _ => rfl) (fun _ _ => rfl) (by decide +kernel) (by decide +kernel) (by decide +kernel) (by decide +kernel) (by decide +kernel) (by decide +kernel) rfl (fun _ => rfl) (fun _ => rfl) (fun _ => rfl) (fun _ => rfl) (fun _ => rfl) (fun _ => rfl) fun _ => rfl
theorem kind_str : ∀ d, kitB (tyD d) "str" = some (isStr d) := kk (b0 := false) (b1 := false) (b2 := false) (b3 := true) (b4 := false) (b5 := false) (by decide +kernel) (fun _ _ => rfl) (fun _ _ => rfl) (by decide +kernel) (by decide +kernel) (by decide +kernel) (by decide +kernel) (by decide +kernel) (by decide +kernel) rfl (fun _ => rfl) (fun _ => rfl) (fun _ => rfl) (fun _ => rfl) (fun _ => rfl) (fun _ => rfl) fun _ => rfl
theorem kind_tup : ∀ d, kitB (tyD d) "tuple" = some (isTup d) := kk (b0 := false) (b1 := false) (b2 := false) (b3 := false) (b4 := true) (b5 := false) (by decide +kernel) (fun _ _ => rfl) (fun _ _ => rfl) (by decide +kernel) (by decide +kernel) (by decide +kernel) (by decide +kernel) (by decide +kernel) (by decide +kernel) rfl (fun _ => rfl) (fun _ => rfl) (fun _ => rfl) (fun _ => rfl) (fun _ => rfl) (fun _ => rfl) fun _ => rfl
theorem kind_lst : ∀ d, kitB (tyD d) "list" = some (isLst d) := kk (b0 := false) (b1 := false) (b2 := false) (b3 := false) (b4 := false) (b5 := true) (by decide +kernel) (fun _ _ => rfl) (fun _ _ => rfl) (by decide +kernel) (by decide +kernel) (by decide +kernel) (by decide +kernel) (by decide +kernel) (by decide +kernel) rfl (fun _ => rfl) (fun _ => rfl) (fun _ => rfl) (fun _ => rfl) (fun _ => rfl) (fun _ => rfl) fun _ => rfl
theorem pd_is {b : BI} {f : D → Bool} {T : String} {y : Str} {d : Den} (hb : biD b = bIs f) (hk : ∀ d, kitB (tyD d) T = some (f d)) (hg : Gl X x) (hm : X.mg x = none) (hv : bootBuiltins x = some (.builtin "isinstance")) (hg2 : Gl X y) (hm2 : X.mg y = none) (hv2 : bootBuiltins y = some (.type T))
    (he : PE X e (tD X.K d)) (hn : x ≠ "__name__") (hdb : (x == ("__debug__" : Str)) = false) (hn2 : y ≠ "__name__") (hdb2 : (y == ("__debug__" : Str)) = false) (hs : isStar e = false) :
    PE X (.Call (.Name x p) [e, .Name y p2] [] pos) (tD X.K (kBi b (kCons d kNil))) := by
  have ha : PA X [e, .Name y p2] (tCons (tD X.K d) (tCons (tC (.ty T)) tNil)) := pa_cons he (pa_cons (pe_bltn hg2 hm2 hv2 rfl hn2 hdb2) pa_nil (star_cons _ _ _ rfl)) (star_cons _ _ _ hs)
  refine PE_weak (pe_callB (kindB f T hk) hg hm hv ha hn hdb (star_cons _ _ _ hs) (star_back pos X.env _ rfl)) fun σ H Q ⟨F, β, h, en, sm, gd, se, post⟩ => ?_
  have e0 : kBi b (kCons d kNil) en h = (d en h).bind fun r h => ofO (bIs f [r] h) h := by
    unfold kBi kCons kNil
    rw [hb]
    cases d en h <;> rfl
  rw [e0] at post
  refine bindE sm gd se post fun r v F1 β1 H1 h1 sm1 st1 gd1 se1 rr1 post1 => ⟨v, rfl, ?_⟩
  unfold ofO at post1
  split at post1
  · rename_i r' e'
    exact ⟨F1, β1, h1, [r], H, r', sm1, gd1, ⟨v, [], rfl, rr1, rfl⟩, e', fun v F' H' ps rr => post1 v F' β1 H' ps.sm ps.step (gd1.more ps.ff) rr⟩
  · exact post1.elim
end
end MP
end

section
set_option Elab.async false
set_option linter.all false
set_option maxRecDepth 100000
set_option maxHeartbeats 4000000
namespace MP
open PySem PySem.Spec L2 PyProof.Rows
theorem dedup_app (ns : List Int) (σ : List Int) : ∀ k, k ∈ ns.foldl step_dedup σ ↔ k ∈ σ ∨ k ∈ ns := by
  induction ns generalizing σ with
  | nil => intro k; simp
  | cons n r ih =>
    intro k
    rw [List.foldl_cons, ih]
    unfold step_dedup
    split
    · rename_i h
      have h : n ∈ σ := by simpa using h
      constructor
      · rintro (z | z)
        · exact .inl z
        · exact .inr (List.mem_cons_of_mem _ z)
      · rintro (z | z)
        · exact .inl z
        · rcases List.mem_cons.mp z with z | z
          · subst z; exact .inl h
          · exact .inr z
    · rw [List.mem_append, List.mem_singleton, List.mem_cons]
      constructor
      · rintro ((z | z) | z)
        · exact .inl z
        · exact .inr (.inl z)
        · exact .inr (.inr z)
      · rintro (z | z | z)
        · exact .inl (.inl z)
        · exact .inl (.inr z)
        · exact .inr z
theorem dedup_nd (ns : List Int) (σ : List Int) (h : σ.Nodup) : (ns.foldl step_dedup σ).Nodup := by
  induction ns generalizing σ with
  | nil => exact h
  | cons n r ih =>
    rw [List.foldl_cons]
    refine ih _ ?_
    unfold step_dedup
    split
    · exact h
    · rename_i hn
      have hn : n ∉ σ := by simpa using hn
      rw [List.nodup_append]
      exact ⟨h, by simp, fun a ha b hb e => by rw [List.mem_singleton] at hb; subst hb; subst e; exact hn ha⟩
theorem map_getD : ∀ ns : List Int, (List.range ns.length).map (fun i => ns.getD i 0) = ns := by
  intro ns
  apply List.ext_getElem
  · simp
  · intro i h1 h2
    simp [List.getD, List.getElem?_eq_getElem h2]
theorem firstMet_all (ns : List Int) : firstMet (fun i => ns.getD i 0) ns.length = dedup ns := by
  unfold firstMet dedup
  rw [map_getD]
theorem nd_len : ∀ (a b : List Int), a.Nodup → (∀ k, k ∈ a → k ∈ b) → a.length ≤ b.length
  | [], b, _, _ => Nat.zero_le _
  | x :: r, b, h, k => by
    rw [List.nodup_cons] at h
    have hx : x ∈ b := k x List.mem_cons_self
    have := nd_len r (b.erase x) h.2 fun y hy => (List.mem_erase_of_ne (fun e : y = x => h.1 (e ▸ hy))).mpr (k y (List.mem_cons_of_mem _ hy))
    rw [List.length_erase_of_mem hx] at this
    have hp : 0 < b.length := List.length_pos_of_mem hx
    rw [List.length_cons]
    omega
section
variable {X : Cx} {pos p p2 q : Pos} {x y : Str} {a e : Expr} {es : List Expr} {d : Den} {ds : DenL}
theorem pd_lenset (hc : X.calm = true) (hg : Gl X "len") (hm : X.mg "len" = none) (hg2 : Gl X "set") (hm2 : X.mg "set" = none) (ha : PE X a (tD X.K d)) (hs : isStar a = false) :
    PE X (.Call (.Name "len" p) [.Call (.Name "set" p2) [a] [] q] [] pos) (tD X.K (kBi .lenset (kCons d kNil))) := by
  have na := star_cons a [] X.env hs
  refine ⟨fun pins s σ H Q I ⟨F, β, h, en, sm, gd, se, post⟩ => ?_⟩
  have e0 : kBi .lenset (kCons d kNil) en h = (d en h).bind fun r h => ofO (bLenset [r] h) h := by
    unfold kBi kCons kNil
    cases d en h <;> rfl
  rw [e0] at post
  have hb := bindE (K := X.K) (k := fun v H1 => ∃ (ns : List Int) (ad : Addr), v = .ref ad ∧ (SqL X.K H1 ad (ns.map V.int) ∨ SqT X.K H1 ad (ns.map V.int)) ∧ ns.length ≤ 4000 ∧ Q (.int (dedup ns).length) H1) sm gd se post fun r v F1 β1 H1 h1 sm1 st1 gd1 se1 rr1 post1 => by
    unfold ofO at post1
    split at post1
    case h_2 => exact post1.elim
    rename_i r' e'
    unfold bLenset at e'
    split at e'
    case h_2 => cases e'
    rename_i ns hn
    split at e'
    case isFalse => cases e'
    rename_i hl
    cases e'
    obtain ⟨ad, ev, q1⟩ := ints1_of (K := X.K) (H₀ := H) (rs := [r]) (vs := [v]) sm1 gd1 ⟨v, [], rfl, rr1, rfl⟩ hn
    cases ev
    exact ⟨ns, ad, rfl, q1, hl, post1 _ F1 β1 H1 sm1 .refl gd1 rfl⟩
  refine Call_ (ld_blt I hg hm PySem.boot_len ?_)
  refine PyProof.Rows.callWith_builtin1 (PyProof.Rows.args_cons ?_ rfl) rfl rfl
  refine Call_ (ld_blt I hg2 hm2 PyProof.Rows.boot_set ?_)
  refine PyProof.Rows.callWith_type1 (PyProof.Rows.args_cons (thn (ha.run pins s σ H _ I hb) fun v s1 ⟨x, H1, I1, r1, q1⟩ => PyProof.Rows.args_nil ?_) na) na rfl
  obtain ⟨ns, l, rfl, hq, hl, q1⟩ := q1
  cases r1
  have hll : (ns.map V.int).length = ns.length := List.length_map ..
  rcases hq with hq | hq
  · obtain ⟨its, r, pl, hz⟩ := I1.list hq
    have hlen : its.toArray.size = ns.length := by rw [List.size_toArray, ← r.length, List.length_map]
    refine call_set_list (I1.ok.hd hc) pl.isList (ns := ns) (by simpa using r.ints) (by rw [hlen]; unfold scanBound; omega) fun h' tk hS hk => ?_
    rw [hlen, firstMet_all] at hS
    refine PyProof.Rows.args_nil ?_
    obtain ⟨o, es, ep, t, ho, hex, hd, _, _, _, hf, hn⟩ := hS
    have I2 : L2.Inv X pins σ H1 { s1 with heap := h', toks := tk } := I1.kept fun b o e => hk b o (Heap.lt_size e) e
    have hle : (dedup ns).length ≤ ns.length := nd_len _ _ (dedup_nd ns [] List.nodup_nil) fun k hk => by
      have := (dedup_app ns [] k).mp hk
      simpa using this
    exact call_len_set ho hex hd hf (by rw [hn] <;> omega) ⟨.int (dedup ns).length, H1, I2.tok _, ⟨_, by rw [hn]⟩, q1⟩
  · obtain ⟨its, r, pl, hz⟩ := I1.tuple hq
    have hlen : its.toArray.size = ns.length := by rw [List.size_toArray, ← r.length, List.length_map]
    refine L2.call_set_tupI ns (I1.ok.hd hc) (show s1.heap.IsTuple l its.toArray from pl) (by simpa using r.ints) (by unfold scanBound; omega) fun h' tk c hS hcn hk => ?_
    refine PyProof.Rows.args_nil ?_
    obtain ⟨o, es, ep, t, ho, hex, hd, _, nd, mem, _, hf, hn, _, _⟩ := hS
    have I2 : L2.Inv X pins σ H1 { s1 with heap := h', toks := tk } := I1.kept hk
    have hmem : ∀ k, k ∈ es.toList.map keyOf ↔ k ∈ dedup ns := fun k => by
      rw [← mem k, decide_eq_true_eq]
      have := dedup_app ns [] k
      unfold dedup
      rw [this]
      simp
    have hc1 : es.size = (dedup ns).length := by
      have l1 := nd_len _ _ nd fun k hk => (hmem k).mp hk
      have l2 := nd_len _ _ (dedup_nd ns [] List.nodup_nil) fun k hk => (hmem k).mpr hk
      rw [List.length_map, Array.length_toList] at l1 l2
      exact Nat.le_antisymm l1 l2
    exact call_len_set ho hex hd hf (by rw [hn] <;> omega) ⟨.int (dedup ns).length, H1, I2.tok _, ⟨_, by rw [hc1]⟩, q1⟩
/-! ### list(range(..)) -/
theorem VRs.rg {K : Kf} {F : Hp} {β : List Addr} (i j : Int) : VRs K F β (rng i j) (rgV i j) := by
  unfold rng rgV
  have : ∀ (l : List Nat) , VRs K F β (l.map fun k => D.int (i + (k : Nat))) (l.map fun k => V.int (i + (k : Nat))) := fun l => by
    induction l with
    | nil => exact rfl
    | cons k r ih => exact ⟨_, _, rfl, rfl, ih⟩
  exact this _
theorem pd_lrng1 (hc : X.calm = true) (hg : Gl X "list") (hm : X.mg "list" = none) (hg2 : Gl X "range") (hm2 : X.mg "range" = none) (ha : PE X a (tD X.K d)) (hs : isStar a = false) :
    PE X (.Call (.Name "list" p) [.Call (.Name "range" p2) [a] [] q] [] pos) (tD X.K (kBi .lrng1 (kCons d kNil))) := by
  refine PE_weak (pe_listRg hc hg hm (prg_1 hg2 hm2 ha (star_cons _ _ _ hs))) fun σ H Q ⟨F, β, h, en, sm, gd, se, post⟩ => ?_
  have e0 : kBi .lrng1 (kCons d kNil) en h = (d en h).bind fun r h => ofO (bLrng1 [r] h) h := by
    unfold kBi kCons kNil
    cases d en h <;> rfl
  rw [e0] at post
  refine bindE sm gd se post fun r v F1 β1 H1 h1 sm1 st1 gd1 se1 rr1 post1 => ?_
  unfold ofO at post1
  split at post1
  case h_2 => exact post1.elim
  rename_i r' e'
  unfold bLrng1 at e'
  split at e'
  case h_2 => cases e'
  rename_i j ej
  cases ej
  split at e'
  case isFalse => cases e'
  rename_i hj
  cases e'
  have hsl := sizeLine_eq
  exact ⟨j, rr1, ⟨by omega, by omega, hj.1, hj.2.1, by omega⟩, new_lst sm1 (VRs.rg 0 j) fun v F' H' ps rr => post1 v F' β1 H' ps.sm ps.step (gd1.more ps.ff) rr⟩
theorem pd_lrng2 {b : Expr} {db : Den} (hc : X.calm = true) (hg : Gl X "list") (hm : X.mg "list" = none) (hg2 : Gl X "range") (hm2 : X.mg "range" = none) (ha : PE X a (tD X.K d)) (hb : PE X b (tD X.K db)) (hs : isStar a = false) (hs2 : isStar b = false) :
    PE X (.Call (.Name "list" p) [.Call (.Name "range" p2) [a, b] [] q] [] pos) (tD X.K (kBi .lrng2 (kCons d (kCons db kNil)))) := by
  refine PE_weak (pe_listRg hc hg hm (prg_2 hg2 hm2 ha hb (star_cons _ _ _ hs) (star_cons _ _ _ hs2) (star_back _ _ _ (by rw [List.all_cons, hs2]; rfl)))) fun σ H Q ⟨F, β, h, en, sm, gd, se, post⟩ => ?_
  have e0 : kBi .lrng2 (kCons d (kCons db kNil)) en h = (d en h).bind fun r h => (db en h).bind fun r2 h => ofO (bLrng2 [r, r2] h) h := by
    unfold kBi kCons kNil
    cases d en h with
    | ok r h1 => simp only [Out.bind]; cases db en h1 <;> rfl
    | _ => rfl
  rw [e0] at post
  refine bindE sm gd se post fun r v F1 β1 H1 h1 sm1 st1 gd1 se1 rr1 post1 => ?_
  refine bindE sm1 gd1 se1 post1 fun r2 v2 F2 β2 H2 h2 sm2 st2 gd2 se2 rr2 post2 => ?_
  unfold ofO at post2
  split at post2
  case h_2 => exact post2.elim
  rename_i r' e'
  unfold bLrng2 at e'
  split at e'
  case h_2 => cases e'
  rename_i i j ej
  cases ej
  split at e'
  case isFalse => cases e'
  rename_i hj
  cases e'
  have hsl := sizeLine_eq
  exact ⟨i, j, rr1, rr2, ⟨hj.1, hj.2.1, hj.2.2.1, hj.2.2.2.1, by omega⟩, new_lst sm2 (VRs.rg i j) fun v F' H' ps rr => post2 v F' β2 H' ps.sm ps.step (gd2.more ps.ff) rr⟩
end
end MP
end

section
set_option Elab.async false
set_option linter.all false
set_option maxRecDepth 100000
set_option maxHeartbeats 4000000
namespace PySem
open PySem
namespace AutoSeq1
set_option maxRecDepth 8000 in
theorem list_extend_list_tuple_any (l : Addr) (items : Array Value) (n : Nat) (b : Addr) (items2 : Array Value) (n2 : Nat) (dd : Option Addr) (sl : Array (Option Value)) (hs0 : ¬(!items.isEmpty && Builtin.List.listTooLong (items.size + items2.size)) = true) (hs1 : items.size ≤ sizeLine) (hs2 : items.size + items2.size ≤ sizeLine + 1 := by seq_fits) :
    Meets (Builtin.«list.extend» ⟨[.ref l, .ref b], []⟩) (fun _ R s => s.heap.get? l = some { cls := .type "list", dict := none, data := .seq items n, slots := #[] } ∧ s.heap.get? b = some { cls := .type "tuple", dict := dd, data := .seq items2 n2, slots := sl } ∧ R (.ok (.ret Value.none)) { s with heap := s.heap.update l (Obj.mapSeq fun x => x ++ items2), toks := s.toks }) :=
  .of_wp fun prog w A R s h => by
    obtain ⟨hp, g, d, tk, os⟩ := s; obtain ⟨hl, hb, h⟩ := h; have f1 := idx_int; have f2 := sub_tuple_tuple; have f3 := sub_list_list; have f4 := sub_tuple_list; have f5 := sub_list_tuple;
    have hz' : (items ++ items2).size ≤ sizeLine + 1 := by rw [Array.size_append]; exact hs2
    wp_walk using (wpAny_updateSeq hl rfl (hz := hs1) (_hz' := hz')), wpAny_loadPart' hl, wpAny_loadPart' hb; exact ⟨_, rfl, h⟩
end AutoSeq1
end PySem
namespace MP
open PySem PySem.Spec L2 PyProof.Rows
section
variable {K : Kf} {F F' H H' : Hp} {β β' : List Addr} {h h' : Hh}
mutual
theorem VR.low : ∀ {d : D} {v : V}, VR K F β d v → lowD β.length d = true
  | .non, _, _ => rfl
  | .bl _, _, _ => rfl
  | .int _, _, _ => rfl
  | .str _, _, _ => rfl
  | .rp _, _, _ => rfl
  | .tup ds, _, ⟨_, _, _, _, w⟩ => by unfold lowD; exact VRs.low w
  | .lst ds, _, ⟨_, _, _, _, w⟩ => by unfold lowD; exact VRs.low w
  | .ref n, _, ⟨_, q, _⟩ => by unfold lowD; exact decide_eq_true (List.getElem?_eq_some_iff.mp q).1
  | .dct ks ds, _, ⟨_, _, _, _, _, w⟩ => by unfold lowD; exact VRs.low w
  | .xt ds, _, ⟨_, _, _, _, w⟩ => by unfold lowD; exact VRs.low w
theorem VRs.low : ∀ {ds : List D} {vs : List V}, VRs K F β ds vs → lowAll β.length ds = true
  | [], _, _ => rfl
  | d :: ds, _, ⟨_, _, _, w1, w2⟩ => by unfold lowAll; rw [VR.low w1, VRs.low w2]; rfl
end
/-- a new list of the heap -/
theorem grow {F0 : Hp} {β0 : List Addr} {H₀ : Hp} (sm0 : Same F0 H₀) (st : Step F0 β0 H₀ F β H) (sm : Same F H) (gd : Good K F β h) {a : Addr} {vs : List V} {ds : List D} (n0 : H₀ a = none) (f : F a = none) (q : H a = some (.lst vs)) (w : VRs K F β ds vs) :
    Same (upd F a (.lst vs)) H ∧ Step F0 β0 H₀ (upd F a (.lst vs)) (β ++ [a]) H ∧ Good K (upd F a (.lst vs)) (β ++ [a]) (h ++ [.lst ds]) := by
  obtain ⟨k1, k2, k3, na, x⟩ := know sm0 st sm gd n0 f q
  have x2 : Ext F β (upd F a (.lst vs)) (β ++ [a]) := by
    refine ⟨fun n b z => ?_, fun b o z m => ⟨k1 b o z, fun t => ?_⟩⟩
    · rw [List.getElem?_append_left (List.getElem?_eq_some_iff.mp z).1]; exact z
    · rcases List.mem_append.mp t with t | t
      · exact m t
      · rw [List.mem_singleton] at t; subst t; rw [f] at z; cases z
  have f0 : F0 a = none := sm_none sm0 n0
  refine ⟨k2, ⟨?_, fun b o z => ?_, k3.hid⟩, ⟨?_, ?_, fun n b o e1 e2 => ?_⟩⟩
  · obtain ⟨γ, e, g⟩ := st.gm
    refine ⟨γ ++ [a], by rw [e, List.append_assoc], fun b m => ?_⟩
    rcases List.mem_append.mp m with m | m
    · exact g b m
    · rw [List.mem_singleton] at m; subst m; exact ⟨f0, n0⟩
  · exact k3.kp b o z
  · rw [List.nodup_append]
    exact ⟨gd.nd, by simp, fun b hb c hc e => by rw [List.mem_singleton] at hc; subst hc; subst e; exact na hb⟩
  · rw [List.length_append, List.length_append, gd.len]; rfl
  · by_cases hn : n < β.length
    · rw [List.getElem?_append_left hn] at e1
      rw [List.getElem?_append_left (by rw [← gd.len]; exact hn)] at e2
      exact OR.more x2 (fun u z => k1 _ _ z) (gd.ob n b o e1 e2)
    · have hn2 : n = β.length := by
        have := (List.getElem?_eq_some_iff.mp e1).1
        rw [List.length_append, List.length_singleton] at this
        omega
      subst hn2
      rw [List.getElem?_append_right (Nat.le_refl _)] at e1
      rw [gd.len, List.getElem?_append_right (Nat.le_refl _)] at e2
      simp only [Nat.sub_self, List.getElem?_cons_zero, Option.some.injEq] at e1 e2
      subst e1 e2
      exact ⟨vs, upd_same, VRs.ext x2 ds vs w, VRs.low w⟩
/-- a list of the heap changes -/
theorem change {F0 : Hp} {β0 : List Addr} {H₀ : Hp} (sm0 : Same F0 H₀) (st : Step F0 β0 H₀ F β H) (sm : Same F H) (gd : Good K F β h) {n : Nat} {a : Addr} {vs xs : List V} {ds : List D} (e : β[n]? = some a) (f : F a = some (.lst xs)) (w : VRs K F β ds vs) (l : lowAll n ds = true) :
    Same (upd F a (.lst vs)) (upd H a (.lst vs)) ∧ Step F0 β0 H₀ (upd F a (.lst vs)) β (upd H a (.lst vs)) ∧ Good K (upd F a (.lst vs)) β (h.set n (.lst ds)) ∧ Ext F β (upd F a (.lst vs)) β := by
  have hm : a ∈ β := List.mem_of_getElem? e
  have x2 : Ext F β (upd F a (.lst vs)) β := ⟨fun _ _ z => z, fun b o z m => ⟨by rw [upd_ne (fun t : b = a => m (t ▸ hm))]; exact z, m⟩⟩
  refine ⟨sm_upd sm, Step.trans sm0 st ⟨⟨[], by simp, fun _ z => by simp at z⟩, fun b o z => ?_, fun b o z y => ?_⟩, ⟨gd.nd, by rw [List.length_set]; exact gd.len, fun m b o e1 e2 => ?_⟩, x2⟩
  · by_cases t : b = a
    · subst t
      exact ⟨⟨_, upd_same⟩, fun m => absurd hm m⟩
    · rw [upd_ne t]
      exact ⟨⟨o, z⟩, fun _ => z⟩
  · have t : b ≠ a := fun t => by subst t; rw [f] at z; cases z
    rw [upd_ne t, upd_ne t]
    exact ⟨z, y⟩
  · by_cases t : m = n
    · subst t
      rw [e] at e1
      cases e1
      have hl : m < h.length := by
        have := (List.getElem?_eq_some_iff.mp e).1
        rw [gd.len] at this; exact this
      rw [List.getElem?_set_self hl] at e2
      cases e2
      exact ⟨vs, upd_same, VRs.ext x2 ds vs w, l⟩
    · rw [List.getElem?_set_ne (fun z => t z.symm)] at e2
      have hb : b ≠ a := fun z => by
        subst z
        have h2 := List.getElem?_eq_some_iff.mp e1
        exact t ((List.getElem?_inj h2.1 gd.nd).mp (e1.trans e.symm))
      exact OR.more x2 (fun u z => by rw [upd_ne hb]; exact z) (gd.ob m b o e1 e2)
end
section
variable {K : Kf} {F F' H H' : Hp} {β β' : List Addr} {h h' : Hh}
/-- an object of the heap becomes a dict -/
theorem changeD {F0 : Hp} {β0 : List Addr} {H₀ : Hp} (sm0 : Same F0 H₀) (st : Step F0 β0 H₀ F β H) (sm : Same F H) (gd : Good K F β h) {n : Nat} {a : Addr} {vs : List V} {ks : Ks} {ds : List D} (e : β[n]? = some a) (f : ∃ u, F a = some u) (w : VRs K F β ds vs) (l : lowAll n ds = true) (z : klen ks = ds.length) :
    Same (upd F a (dob ks vs)) (upd H a (dob ks vs)) ∧ Step F0 β0 H₀ (upd F a (dob ks vs)) β (upd H a (dob ks vs)) ∧ Good K (upd F a (dob ks vs)) β (h.set n (.dct false ks ds)) ∧ Ext F β (upd F a (dob ks vs)) β := by
  obtain ⟨u, f⟩ := f
  have hm : a ∈ β := List.mem_of_getElem? e
  have x2 : Ext F β (upd F a (dob ks vs)) β := ⟨fun _ _ z => z, fun b o z m => ⟨by rw [upd_ne (fun t : b = a => m (t ▸ hm))]; exact z, m⟩⟩
  refine ⟨sm_upd sm, Step.trans sm0 st ⟨⟨[], by simp, fun _ z => by simp at z⟩, fun b o z => ?_, fun b o z y => ?_⟩, ⟨gd.nd, by rw [List.length_set]; exact gd.len, fun m b o e1 e2 => ?_⟩, x2⟩
  · by_cases t : b = a
    · subst t
      exact ⟨⟨_, upd_same⟩, fun m => absurd hm m⟩
    · rw [upd_ne t]
      exact ⟨⟨o, z⟩, fun _ => z⟩
  · have t : b ≠ a := fun t => by subst t; rw [f] at z; cases z
    rw [upd_ne t, upd_ne t]
    exact ⟨z, y⟩
  · by_cases t : m = n
    · subst t
      rw [e] at e1
      cases e1
      have hl : m < h.length := by
        have := (List.getElem?_eq_some_iff.mp e).1
        rw [gd.len] at this; exact this
      rw [List.getElem?_set_self hl] at e2
      cases e2
      exact ⟨vs, upd_same, VRs.ext x2 ds vs w, l, z⟩
    · rw [List.getElem?_set_ne (fun z => t z.symm)] at e2
      have hb : b ≠ a := fun z => by
        subst z
        have h2 := List.getElem?_eq_some_iff.mp e1
        exact t ((List.getElem?_inj h2.1 gd.nd).mp (e1.trans e.symm))
      exact OR.more x2 (fun u z => by rw [upd_ne hb]; exact z) (gd.ob m b o e1 e2)
theorem getZ_len {κ : Type} [DecidableEq κ] : ∀ {l : List κ} {ds : List D} {j : κ}, (getZ l ds j).isSome = true → l.length = ds.length → l.any (fun k => decide (k = j)) = true
  | k :: l, d :: ds, j, h, z => by
    unfold getZ at h
    rw [List.any_cons]
    by_cases hk : k = j
    · simp [hk]
    · rw [if_neg hk] at h
      rw [getZ_len h (by simpa using z)]; simp
  | [], _, _, h, _ => by unfold getZ at h; simp at h
  | _ :: _, [], _, _, z => by simp at z
/-- a dict with one more pair -/
theorem putZ_ok {l : List Key} {ds : List D} {vs : List V} {x : D} {v : V} (j : Key) (w : VRs K F β ds vs) (z : l.length = ds.length) (kv : VR K F β x v) :
    ∃ vs', putK (l.zip vs) j v = (putZ l ds j x).1.zip vs' ∧ VRs K F β (putZ l ds j x).2 vs' ∧ klen (.k (putZ l ds j x).1) = (putZ l ds j x).2.length := by
  have t := valV_zip j w z
  have ha := valV_any j (l.zip vs)
  have zl := w.len
  unfold putZ
  cases hg : getZ l ds j with
  | some d =>
    rw [hg] at t
    obtain ⟨u, t, _⟩ := t
    rw [Option.isSome_some, if_pos rfl]
    refine ⟨(l.zip vs).map fun p => if p.1 = j then v else p.2, ?_, ?_, ?_⟩
    · unfold putK
      rw [ha, t, Option.isSome_some, if_pos rfl]
      have : ∀ (l : List Key) (vs : List V), l.length = vs.length → (l.zip vs).map (fun kv => if kv.1 = j then (kv.1, v) else kv) = l.zip ((l.zip vs).map fun p => if p.1 = j then v else p.2) := fun l => by
        induction l with
        | nil => intro vs _; rfl
        | cons k l ih =>
          intro vs zz
          cases vs with
          | nil => simp at zz
          | cons u vs =>
            rw [List.zip_cons_cons, List.map_cons, List.map_cons, List.zip_cons_cons, ih vs (by simpa using zz)]
            by_cases hk : k = j
            · simp [hk]
            · simp [hk]
      exact this l vs (by rw [zl]; exact z)
    · have : ∀ (l : List Key) (ds : List D) (vs : List V), VRs K F β ds vs → l.length = ds.length → VRs K F β ((l.zip ds).map fun p => if p.1 = j then x else p.2) ((l.zip vs).map fun p => if p.1 = j then v else p.2) := fun l => by
        induction l with
        | nil => intro ds vs _ _; exact rfl
        | cons k l ih =>
          intro ds vs w zz
          cases ds with
          | nil => simp at zz
          | cons d ds =>
            obtain ⟨u, r, rfl, w1, w2⟩ := w
            refine ⟨if k = j then v else u, _, by rw [List.zip_cons_cons, List.map_cons], ?_, ih ds r w2 (by simpa using zz)⟩
            by_cases hk : k = j
            · simp only [hk, if_true]; exact kv
            · simp only [hk, if_false]; exact w1
      exact this l ds vs w z
    · show l.length = _
      rw [List.length_map, List.length_zip]; omega
  | none =>
    rw [hg] at t
    rw [Option.isSome_none, if_neg (by decide)]
    refine ⟨vs ++ [v], ?_, w.app (VRs.one kv), ?_⟩
    · rw [putK_new v t, List.zip_append (by rw [zl]; exact z)]; rfl
    · show (l ++ [j]).length = (ds ++ [x]).length
      rw [List.length_append, List.length_append, z]; rfl
theorem lowAll_put {n : Nat} {x : D} {l : List Key} {ds : List D} (hx : lowD n x = true) (j : Key) (h : lowAll n ds = true) : lowAll n (putZ l ds j x).2 = true := by
  unfold putZ
  split
  · have : ∀ (l : List Key) (ds : List D), lowAll n ds = true → lowAll n ((l.zip ds).map fun p => if p.1 = j then x else p.2) = true := fun l => by
      induction l with
      | nil => intro ds _; rfl
      | cons k l ih =>
        intro ds h
        cases ds with
        | nil => rfl
        | cons d ds =>
          unfold lowAll at h
          rw [Bool.and_eq_true] at h
          show (lowD n (if k = j then x else d) && lowAll n ((l.zip ds).map fun p => if p.1 = j then x else p.2)) = true
          rw [ih ds h.2]
          by_cases hk : k = j
          · simp only [hk, if_true, hx]; rfl
          · simp only [hk, if_false, h.1]; rfl
    exact this l ds h
  · have hap : ∀ (l m : List D), lowAll n l = true → lowAll n m = true → lowAll n (l ++ m) = true := fun l m hl hm => by
      induction l with
      | nil => exact hm
      | cons z r ih => unfold lowAll at hl; rw [Bool.and_eq_true] at hl; show (lowD n z && lowAll n (r ++ m)) = true; rw [hl.1, ih hl.2]; rfl
    exact hap _ _ h (by unfold lowAll lowAll; rw [hx]; rfl)
/-- a new dict of the heap -/
theorem growD {F0 : Hp} {β0 : List Addr} {H₀ : Hp} (sm0 : Same F0 H₀) (st : Step F0 β0 H₀ F β H) (sm : Same F H) (gd : Good K F β h) {p : Addr} {vs : List V} {ks : Ks} {ds : List D} (n : H p = none) (w : VRs K F β ds vs) (z : klen ks = ds.length) :
    Same (upd F p (dob ks vs)) (upd H p (dob ks vs)) ∧ Step F0 β0 H₀ (upd F p (dob ks vs)) (β ++ [p]) (upd H p (dob ks vs)) ∧ Good K (upd F p (dob ks vs)) (β ++ [p]) (h ++ [.dct false ks ds]) ∧ Ext F β (upd F p (dob ks vs)) (β ++ [p]) := by
  have nF := sm_none sm n
  have na : p ∉ β := fun z => by obtain ⟨_, _, _, _, _, f', _⟩ := gd.mem z; rw [nF] at f'; cases f'
  have n0 := none_back sm0 st sm n
  have f0 : F0 p = none := sm_none sm0 n0
  have x2 : Ext F β (upd F p (dob ks vs)) (β ++ [p]) := by
    refine ⟨fun n b z => ?_, fun b o z m => ⟨by rw [upd_ne (ne_of_none z nF)]; exact z, fun t => ?_⟩⟩
    · rw [List.getElem?_append_left (List.getElem?_eq_some_iff.mp z).1]; exact z
    · rcases List.mem_append.mp t with t | t
      · exact m t
      · rw [List.mem_singleton] at t; subst t; rw [nF] at z; cases z
  refine ⟨sm_upd sm, ⟨?_, fun b o z => ?_, fun b o z y => ?_⟩, ⟨?_, ?_, fun m b o e1 e2 => ?_⟩, x2⟩
  · obtain ⟨γ, e, g⟩ := st.gm
    refine ⟨γ ++ [p], by rw [e, List.append_assoc], fun b m => ?_⟩
    rcases List.mem_append.mp m with m | m
    · exact g b m
    · rw [List.mem_singleton] at m; subst m; exact ⟨f0, n0⟩
  · obtain ⟨⟨o', z1⟩, k⟩ := st.kp b o z
    have t : b ≠ p := ne_of_none z1 nF
    rw [upd_ne t]
    exact ⟨⟨o', z1⟩, k⟩
  · obtain ⟨y1, y2⟩ := st.hid b o z y
    have t : b ≠ p := ne_of_none y2 n
    rw [upd_ne t, upd_ne t]
    exact ⟨y1, y2⟩
  · rw [List.nodup_append]
    exact ⟨gd.nd, by simp, fun b hb c hc e => by rw [List.mem_singleton] at hc; subst hc; subst e; exact na hb⟩
  · rw [List.length_append, List.length_append, gd.len]; rfl
  · by_cases hn : m < β.length
    · rw [List.getElem?_append_left hn] at e1
      rw [List.getElem?_append_left (by rw [← gd.len]; exact hn)] at e2
      have hb : b ≠ p := fun t => na (t ▸ List.mem_of_getElem? e1)
      exact OR.more x2 (fun u z => by rw [upd_ne hb]; exact z) (gd.ob m b o e1 e2)
    · have hn2 : m = β.length := by
        have := (List.getElem?_eq_some_iff.mp e1).1
        rw [List.length_append, List.length_singleton] at this
        omega
      subst hn2
      rw [List.getElem?_append_right (Nat.le_refl _)] at e1
      rw [gd.len, List.getElem?_append_right (Nat.le_refl _)] at e2
      simp only [Nat.sub_self, List.getElem?_cons_zero, Option.some.injEq] at e1 e2
      subst e1 e2
      exact ⟨vs, upd_same, VRs.ext x2 ds vs w, VRs.low w, z⟩
end
section
variable {X : Cx} {pos p p2 q apos cpos : Pos} {x y name : Str} {a e o : Expr} {es : List Expr} {d dO : Den} {ds : DenL}
theorem pd_Al (he : PE X e (tD X.K d)) : PE X e (tD X.K (kAl d)) := by
  refine PE_weak he fun σ H Q ⟨F, β, h, en, sm, gd, se, post⟩ => ⟨F, β, h, en, sm, gd, se, ?_⟩
  unfold kAl at post
  cases hd : d en h with
  | er e h => rw [hd] at post; exact post
  | no => rw [hd] at post; exact post
  | ok r h1 =>
    rw [hd] at post
    simp only [Out.bind] at post
    intro v F1 β1 H1 sm1 st1 gd1 rr1
    unfold alR at post
    split at post
    · rename_i ds
      obtain ⟨a, vs, rfl, n0, f, q, w⟩ := rr1
      obtain ⟨k1, k2, k3⟩ := grow sm st1 sm1 gd1 n0 f q w
      exact post (.ref a) _ _ H1 k1 k2 k3 ⟨a, by rw [← gd1.len, List.getElem?_append_right (Nat.le_refl _)]; simp, rfl⟩
    · exact post.elim

/-! ### methods -/
def rM (K : Kf) (m : ME) : V → List V → Hp → VK → Prop := fun x vs H Q => ∃ F β h F0 β0 H₀ rs n ds dsx r h', Same F0 H₀ ∧ Step F0 β0 H₀ F β H ∧ Same F H ∧ Good K F β h ∧ VR K F β (.ref n) x ∧ RRs K F β H₀ H rs vs ∧ (flA rs vs).Nodup ∧ h[n]? = some (.lst ds) ∧ mD m n ds rs h = .ok r h' ∧ dsx = ds ∧
  ∀ v F' H', Same F' H' → Step F0 β0 H₀ F' β H' → Good K F' β h' → RR K F' β H₀ H' r v → Q v H'
theorem m_append : MtM X "list.append" (rM X.K .append) := by
  intro pins s σ H x vs v us Q I rx rv ⟨F, β, h, F0, β0, H₀, rs, n, ds, _, r, h', sm0, st, sm, gd, ⟨a, ea, ex⟩, rr, nd, hn, e, _, q⟩
  subst ex
  have e : mAppend n ds rs h = .ok r h' := e
  unfold mAppend at e
  split at e
  case h_2 => cases e
  rename_i y
  split at e
  case isFalse => cases e
  rename_i hc
  cases e
  obtain ⟨w, ws, rfl, r1, e2⟩ := rr
  cases e2
  obtain ⟨xs, f, wv, lo⟩ := gd.at_ ea hn
  obtain ⟨F2, k1, k2, k3, k4, _⟩ := freeze1 sm0 st sm gd r1
  have x2 : Ext F β F2 β := ⟨fun _ _ z => z, fun b o z m => ⟨k1 b o z, m⟩⟩
  obtain ⟨c1, c2, c3, c4⟩ := change sm0 k3 k2 (gd.more k1) ea (k1 _ _ f) ((VRs.ext x2 _ _ wv).app (VRs.one k4)) (by
    have hap : ∀ (l m : List D), lowAll n l = true → lowAll n m = true → lowAll n (l ++ m) = true := fun l m hl hm => by
      induction l with
      | nil => exact hm
      | cons z r ih => unfold lowAll at hl; rw [Bool.and_eq_true] at hl; show (lowD n z && lowAll n (r ++ m)) = true; rw [hl.1, ih hl.2]; rfl
    exact hap _ _ lo (by unfold lowAll lowAll; rw [hc.1]; rfl))
  exact mt_append pins s σ H _ _ v us Q I rx rv ⟨a, xs, w, rfl, rfl, sm _ _ f, by rw [wv.len]; exact hc.2, q _ _ _ c1 c2 c3 rfl⟩
theorem mt_extendAny {l b : Addr} {xs zs : List V} {Q : VK} {pins : List (Addr × Obj)} {s : Shared} {σ : L2.St} {H : Hp} (I : L2.Inv X pins σ H s) (hH : H l = some (.lst xs)) (hB : Rd H b (.lst zs)) (hz : xs.length + zs.length ≤ sizeLine) (q : Q .non (upd H l (.lst (xs ++ zs)))) :
    wpAny (model X.prog X.w) X.A (call (.builtin "list.extend") [.ref l, .ref b]) (EP X pins σ Q) X.xe s := by
  obtain ⟨z, its, n, r, hl, e⟩ := I.lstM hH
  obtain ⟨z2, its2, n2, r2, hl2, e2⟩ := lst_obj I hB
  have hsz : its.toArray.size + its2.toArray.size ≤ sizeLine := by rw [List.size_toArray, List.size_toArray]; omega
  have hlong : ¬ (!its.toArray.isEmpty && Builtin.List.listTooLong (its.toArray.size + its2.toArray.size)) = true := by
    rw [notLongL hsz, Bool.and_false]
    exact Bool.false_ne_true
  refine call_meets F.slot_list_extend ⟨_, e, rfl⟩ F.entry_list_extend (F.args_list_extend_2 _ _)
    (AutoSeq1.list_extend_list_list_0 l its.toArray n b its2.toArray n2 hlong (by rw [List.size_toArray]; omega) (by omega)) ⟨e, e2, ?_⟩
  refine ⟨.non, _, I.lset (its' := its ++ its2) hH e (by simp) (r.append r2) ?_, rfl, q⟩
  rw [List.length_append]
  omega
theorem mt_extendTup {l b : Addr} {xs zs : List V} {Q : VK} {pins : List (Addr × Obj)} {s : Shared} {σ : L2.St} {H : Hp} (I : L2.Inv X pins σ H s) (hH : H l = some (.lst xs)) (hB : SqT X.K H b zs) (hz : xs.length + zs.length ≤ sizeLine) (q : Q .non (upd H l (.lst (xs ++ zs)))) :
    wpAny (model X.prog X.w) X.A (call (.builtin "list.extend") [.ref l, .ref b]) (EP X pins σ Q) X.xe s := by
  obtain ⟨z, its, n, r, hl, e⟩ := I.lstM hH
  obtain ⟨its2, r2, p2, z2⟩ := I.tuple hB
  obtain ⟨⟨c2, dd2, dt2, sl2⟩, e2, hc2, n2, hd2⟩ := p2
  simp only at hc2 hd2
  subst hc2 hd2
  have hl2 := r2.length
  have hsz : its.toArray.size + its2.toArray.size ≤ sizeLine := by rw [List.size_toArray, List.size_toArray]; omega
  have hlong : ¬ (!its.toArray.isEmpty && Builtin.List.listTooLong (its.toArray.size + its2.toArray.size)) = true := by
    rw [notLongL hsz, Bool.and_false]
    exact Bool.false_ne_true
  refine call_meets F.slot_list_extend ⟨_, e, rfl⟩ F.entry_list_extend (F.args_list_extend_2 _ _)
    (AutoSeq1.list_extend_list_tuple_any l its.toArray n b its2.toArray n2 dd2 sl2 hlong (by rw [List.size_toArray]; omega) (by omega)) ⟨e, e2, ?_⟩
  refine ⟨.non, _, I.lset (its' := its ++ its2) hH e (by simp) (r.append r2) ?_, rfl, q⟩
  rw [List.length_append]
  omega
theorem lowAll_app {n : Nat} : ∀ {l m : List D}, lowAll n l = true → lowAll n m = true → lowAll n (l ++ m) = true
  | [], _, _, hm => hm
  | z :: r, m, hl, hm => by
    unfold lowAll at hl
    rw [Bool.and_eq_true] at hl
    show (lowD n z && lowAll n (r ++ m)) = true
    rw [hl.1, lowAll_app hl.2 hm]; rfl
theorem lowAll_sub {n : Nat} {l m : List D} (s : m.Sublist l) (h : lowAll n l = true) : lowAll n m = true := by
  induction s with
  | slnil => rfl
  | cons a _ ih => unfold lowAll at h; rw [Bool.and_eq_true] at h; exact ih h.2
  | cons_cons a _ ih => unfold lowAll at h ⊢; rw [Bool.and_eq_true] at h; rw [h.1, ih h.2]; rfl
theorem m_extend : MtM X "list.extend" (rM X.K .extend) := by
  intro pins s σ H x vs v us Q I rx rv ⟨F, β, h, F0, β0, H₀, rs, n, ds, _, r, h', sm0, st, sm, gd, ⟨a, ea, ex⟩, rr, nd, hn, e, _, q⟩
  subst ex
  have e : mExtend n ds rs h = .ok r h' := e
  unfold mExtend at e
  split at e
  case h_2 => cases e
  rename_i y
  split at e
  case h_2 => cases e
  rename_i zs hzs
  split at e
  case isFalse => cases e
  rename_i hc
  cases e
  obtain ⟨w, rfl, r1⟩ := rv_of1 rr rfl
  have r2 : ∃ b ys, w = .ref b ∧ (Rd H b (.lst ys) ∨ SqT X.K H b ys) ∧ VRs X.K F β zs ys := by
    unfold viewS at hzs
    split at hzs
    · rename_i l hl
      cases hzs
      obtain ⟨b, ys, e, q, _, w⟩ := viewT_of (K := X.K) sm r1 hl
      exact ⟨b, ys, e, .inr q, w⟩
    · obtain ⟨b, ys, e, q, w⟩ := viewL_of sm gd r1 hzs
      exact ⟨b, ys, e, .inl q, w⟩
  obtain ⟨b, ys, rfl, q1, w2⟩ := r2
  obtain ⟨xs, f, wv, lo⟩ := gd.at_ ea hn
  obtain ⟨c1, c2, c3, c4⟩ := change sm0 st sm gd ea f (wv.app w2) (lowAll_app lo hc.1)
  cases rx
  rw [Vals.ref1 rv]
  rcases q1 with q1 | q1
  · exact mt_extendAny I (sm _ _ f) q1 (by rw [wv.len, w2.len]; exact hc.2) (q _ _ _ c1 c2 c3 rfl)
  · exact mt_extendTup I (sm _ _ f) q1 (by rw [wv.len, w2.len]; exact hc.2) (q _ _ _ c1 c2 c3 rfl)
theorem m_pop : MtM X "list.pop" (rM X.K .pop) := by
  intro pins s σ H x vs v us Q I rx rv ⟨F, β, h, F0, β0, H₀, rs, n, ds, _, r, h', sm0, st, sm, gd, ⟨a, ea, ex⟩, rr, nd, hn, e, _, q⟩
  subst ex
  have e : mPop n ds rs h = .ok r h' := e
  unfold mPop at e
  split at e
  case h_2 => cases e
  split at e
  case h_2 => cases e
  rename_i y hy
  cases e
  cases rr
  obtain ⟨xs, f, wv, lo⟩ := gd.at_ ea hn
  obtain ⟨z, hz, rz⟩ := wv.get hy
  obtain ⟨c1, c2, c3, c4⟩ := change sm0 st sm gd ea f wv.dropLast (lowAll_sub (List.dropLast_sublist ds) lo)
  exact mt_pop pins s σ H _ _ v us Q I rx rv ⟨a, xs, z, rfl, rfl, sm _ _ f, by rw [wv.len]; exact hz, q z _ _ c1 c2 c3 (VR.ext c4 y z rz)⟩
theorem m_popAt : MtM X "list.pop" (rM X.K .popAt) := by
  intro pins s σ H x vs v us Q I rx rv ⟨F, β, h, F0, β0, H₀, rs, n, ds, _, r, h', sm0, st, sm, gd, ⟨a, ea, ex⟩, rr, nd, hn, e, _, q⟩
  subst ex
  have e : mPopAt n ds rs h = .ok r h' := e
  unfold mPopAt at e
  split at e
  case h_2 => cases e
  rename_i i _
  split at e
  case isFalse => cases e
  rename_i hc
  unfold popAt at e
  split at e
  case h_2 => cases e
  rename_i k hk
  split at e
  case h_2 => cases e
  rename_i y hy
  cases e
  obtain ⟨w, rfl, r1⟩ := rv_of1 rr rfl
  cases (show w = .int i from r1)
  obtain ⟨xs, f, wv, lo⟩ := gd.at_ ea hn
  obtain ⟨z, hz, rz⟩ := wv.get hy
  obtain ⟨c1, c2, c3, c4⟩ := change sm0 st sm gd ea f (wv.erase k) (lowAll_sub (List.eraseIdx_sublist ds k) lo)
  exact mt_popAt pins s σ H _ _ v us Q I rx rv ⟨a, xs, i, k, z, rfl, rfl, sm _ _ f, hc.1, hc.2, by rw [wv.len]; exact hk, hz, q z _ _ c1 c2 c3 (VR.ext c4 y z rz)⟩
theorem methD_ref {m : ME} {r0 : R} {rs : List R} {h : Hh} (hne : methD m r0 rs h ≠ .no) : ∃ n ds', r0 = .d (.ref n) ∧ h[n]? = some (.lst ds') ∧ methD m r0 rs h = mD m n ds' rs h := by
  unfold methD at hne ⊢
  split at hne
  · rename_i n
    split at hne
    · rename_i ds' hn
      exact ⟨n, ds', rfl, hn, rfl⟩
    · exact absurd rfl hne
  · exact absurd rfl hne
/-- o.m(e) -/
theorem meth_weak {m : ME} : ∀ σ H Q, tD X.K (kMeth m dO ds) σ H Q → tBM X.K "list" (rM X.K m) (tD X.K dO) (tL X.K ds) σ H Q := fun σ H Q ⟨F, β, h, en, sm, gd, se, post⟩ => by
  refine ⟨F, β, h, en, sm, gd, se, ?_⟩
  unfold kMeth at post
  cases hd : dO en h with
  | er e h => rw [hd] at post; exact post
  | no => rw [hd] at post; exact post
  | ok r0 h1 =>
    rw [hd] at post
    intro v F1 β1 H1 sm1 st1 gd1 rr1
    cases hvw : viewL h1 r0 with
    | none => simp only [Out.bind, hvw] at post; exact post.elim
    | some dsv =>
    simp only [Out.bind, hvw] at post
    have post : PostE X.K F β H ((ds en h1).bind fun xs h => methD m r0 xs h) Q := post
    cases hds : ds en h1 with
    | er e h => rw [hds] at post; exact post.elim
    | no => rw [hds] at post; exact post.elim
    | ok rs h2 =>
      rw [hds] at post
      have post : PostE X.K F β H (methD m r0 rs h2) Q := post
      have hr := methD_ref (m := m) (r0 := r0) (rs := rs) (h := h2) fun z => by rw [z] at post; exact post
      obtain ⟨n, ds', rfl, hn, em⟩ := hr
      rw [em] at post
      obtain ⟨a, ea, ex⟩ := id rr1
      have hm : ∃ vs, H1 a = some (.lst vs) := by
        have e0 : (match h1[n]? with
          | some (.lst ds) => some ds
          | _ => none) = some dsv := hvw
        split at e0
        · rename_i l hl
          obtain ⟨vs, f, _⟩ := gd1.at_ ea hl
          exact ⟨vs, sm1 _ _ f⟩
        · cases e0
      refine ⟨?_, F1, β1, h1, en, sm1, gd1, se.ext st1.ext, ?_⟩
      · subst ex
        obtain ⟨vs, hv⟩ := hm
        exact .inl ⟨rfl, vs, .inl (.inl hv)⟩
      · rw [hds]
        intro vs F2 β2 H2 sm2 st2 gd2 rr2 nd2
        cases hmd : mD m n ds' rs h2 with
        | er e h => rw [hmd] at post; exact post.elim
        | no => rw [hmd] at post; exact post.elim
        | ok r3 h3 =>
          rw [hmd] at post
          exact ⟨F2, β2, h2, F, β, H, rs, n, ds', ds', r3, h3, sm, Step.trans sm st1 st2, sm2, gd2, VR.ext st2.ext _ _ rr1, rr2.back sm st1 sm1, nd2, hn, hmd, rfl, fun v F' H' a b c d => post v F' β2 H' a b c d⟩
def nameOf : ME → Str
  | .append => "append"
  | .extend => "extend"
  | .pop => "pop"
  | .popAt => "pop"
theorem few (cpos : Pos) : ∀ es : List Expr, es.all (fun e => !isStar e) = true → (backTo cpos (starEach es X.env)).all (fun x => !x.1) = true
  | [], _ => rfl
  | e :: es, h => by
    rw [List.all_cons, Bool.and_eq_true] at h
    rw [star_cons e es X.env (by simpa using h.1)]
    show (true && (backTo cpos (starEach es X.env)).all (fun x => !x.1)) = true
    rw [few cpos es h.2]
    rfl
theorem pd_Meth {m : ME} {id : String} (pa : PlainAttrs "list") (slot : Slot "list" name id) (hty : typeOf (.builtin id) = pure (.type "method_descriptor")) (hm : MtM X id (rM X.K m)) (ho : PE X o (tD X.K dO)) (ha : PA X (e :: es) (tL X.K ds))
    (hbase : attributeBase o name X.env (eval o X.env) = eval o X.env) (hline : (apos.endLine == cpos.line) = true) (hs : (e :: es).all (fun e => !isStar e) = true) (hl : (e :: es).length < 30) : PE X (.Call (.Attribute o name apos) (e :: es) [] cpos) (tD X.K (kMeth m dO ds)) := by
  have hs2 := hs
  rw [List.all_cons, Bool.and_eq_true] at hs
  refine PE_weak (pe_bm pa slot hty hm ho ha hbase ?_ hline (star_cons e es X.env (by simpa using hs.1)) (star_back _ X.env es hs.2)) meth_weak
  rw [few cpos _ hs2]
  show (true && (true && decide ((e :: es).length + 0 + 0 < 30))) = true
  rw [show decide ((e :: es).length + 0 + 0 < 30) = true from decide_eq_true hl]
  rfl
theorem pd_Pop (pa : PlainAttrs "list") (slot : Slot "list" "pop" "list.pop") (hty : typeOf (.builtin "list.pop") = pure (.type "method_descriptor")) (ho : PE X o (tD X.K dO))
    (hbase : attributeBase o "pop" X.env (eval o X.env) = eval o X.env) (hline : (apos.endLine == cpos.line) = true) : PE X (.Call (.Attribute o "pop" apos) [] [] cpos) (tD X.K (kMeth .pop dO kNil)) := by
  refine PE_weak (pe_bm0 pa slot hty m_pop ho hbase hline) fun σ H Q z => ?_
  obtain ⟨F, β, h, en, sm, gd, se, post⟩ := meth_weak σ H Q z
  refine ⟨F, β, h, en, sm, gd, se, ?_⟩
  cases hd : dO en h with
  | er e h => rw [hd] at post; exact post
  | no => rw [hd] at post; exact post
  | ok r h1 =>
    rw [hd] at post
    intro v F1 β1 H1 sm1 st1 gd1 rr1
    obtain ⟨ty, F2, β2, h2, en2, sm2, gd2, se2, post2⟩ := post v F1 β1 H1 sm1 st1 gd1 rr1
    exact ⟨ty, post2 [] F2 β2 H1 sm2 .refl gd2 rfl List.nodup_nil⟩
end
end MP
end

section
set_option Elab.async false
set_option linter.all false
set_option maxRecDepth 100000
set_option maxHeartbeats 4000000
namespace MP
open PySem PySem.Spec L2 PyProof.Rows
section
variable {X : Cx} {pos p p2 q apos cpos : Pos} {x y name : Str} {a e o : Expr} {es : List Expr} {d dO dk dx : Den} {ds : DenL} {T id : String} {to : TE} {t : TA} {r : V → List V → Hp → VK → Prop}
/-- {} -/
theorem pd_Dnew : PE X (.Dict [] [] pos) (tD X.K kDnew) := by
  refine PE_weak pe_dnewK fun σ H Q ⟨F, β, h, en, sm, gd, se, post⟩ p n => ?_
  obtain ⟨k1, k2, k3, _⟩ := growD (ks := .k []) (ds := []) (vs := []) sm .refl sm gd n rfl rfl
  exact post (.ref p) _ _ _ k1 k2 k3 ⟨p, by rw [← gd.len, List.getElem?_append_right (Nat.le_refl _)]; simp, rfl⟩
/-- a method of a thing whose type is told by TP -/
theorem pe_bmG {TP : V → Hp → Prop} (hTP : ∀ (pins : List (Addr × Obj)) (s : Shared) (σ : L2.St) (H : Hp) (x : V) (v : Value), L2.Inv X pins σ H s → RelV x v → TP x H → s.TypeIs v T ∧ ∀ a, v = .ref a → ∃ ob, s.heap.get? a = some ob ∧ ob.dict = none)
    (pa : PlainAttrs T) (slot : Slot T name id) (hty : typeOf (.builtin id) = pure (.type "method_descriptor")) (hm : MtR X id r) (ho : PE X o to) (ha : PA X (e :: es) t)
    (hbase : attributeBase o name X.env (eval o X.env) = eval o X.env) (hline : (apos.endLine == cpos.line) = true) (hs : (e :: es).all (fun e => !isStar e) = true) (hl : (e :: es).length < 30) :
    PE X (.Call (.Attribute o name apos) (e :: es) [] cpos) (fun σ H Q => to σ H fun x H1 => TP x H1 ∧ t σ H1 fun xs H2 => r x xs H2 Q) := by
  have hs2 := hs
  rw [List.all_cons, Bool.and_eq_true] at hs
  have hst := star_cons e es X.env (by simpa using hs.1)
  have hplain : (backTo cpos (starEach es X.env)).any (·.1) = false := star_back _ X.env es hs.2
  have hfew : ((backTo cpos (starEach (e :: es) X.env)).all (fun x => !x.1) && (backToKw cpos (keywordEach [] X.env)).all (fun x => x.1.isSome)
      && decide ((e :: es).length + ([] : List Keyword).length + (if ([] : List Keyword).isEmpty then 0 else 1) < 30)) = true := by
    rw [few cpos _ hs2]
    show (true && (true && decide ((e :: es).length + 0 + 0 < 30))) = true
    rw [show decide ((e :: es).length + 0 + 0 < 30) = true from decide_eq_true hl]
    rfl
  refine ⟨fun pins s σ H Q I h => ?_⟩
  refine wpAny_Call_method_late hbase hfew hline rfl (thn (ho.run pins s σ H _ I h) fun v s1 ⟨x, H1, I1, r1, ty, q1⟩ => ?_)
  obtain ⟨h1, h2⟩ := hTP pins s1 σ H1 x v I1 r1 ty
  refine ⟨T, id, pa, slot, hty, h1, h2, ?_⟩
  have hA := ha.run cpos pins s1 σ H1 _ I1 q1
  rw [hst] at hA ⊢
  refine Calls.callWith_builtin (by show (false || (backTo cpos (starEach es X.env)).any (·.1)) = false; rw [hplain] <;> rfl) (Calls.evalArgs_plain ?_)
  exact thn hA fun us s2 ⟨vs, H2, I2, r2, q2⟩ => hm pins s2 σ H2 x vs v us Q I2 r1 r2 q2
/-! ### d.get(k, x) -/
theorem mt_dget2 (hu : X.A.units + 1 < cLine) : MtR X "dict.get" (fun x xs H Q => ∃ a y z o, x = .ref a ∧ xs = [y, z] ∧ DGet H a y o ∧ Q (o.getD z) H) := by
  intro pins s σ H x xs v us Q I rx rv ⟨a, y, z, o, ex, exs, g, q⟩
  subst ex exs
  cases (show v = Value.ref a from rx)
  obtain ⟨u1, u2, rfl, r1, r2⟩ := Vals.two rv
  exact d_get2 hu I g r1 r2 fun w' s4 I4 rw' => ⟨_, H, I4, rw', q⟩
theorem isD_ty (pins : List (Addr × Obj)) (s : Shared) (σ : L2.St) (H : Hp) (x : V) (v : Value) (I : L2.Inv X pins σ H s) (r : RelV x v) (t : ∃ a, x = .ref a ∧ IsD H a) : s.TypeIs v "dict" ∧ ∀ a, v = .ref a → ∃ ob, s.heap.get? a = some ob ∧ ob.dict = none := by
  obtain ⟨a, rfl, d⟩ := t
  cases (show v = Value.ref a from r)
  obtain ⟨t1, t2, _⟩ := isD_at I d
  exact ⟨t1, t2⟩
theorem pd_Dget {f : Expr} (hu : X.A.units + 1 < cLine) (ho : PE X o (tD X.K dO)) (hk : PE X e (tD X.K dk)) (hx : PE X f (tD X.K dx)) (hs1 : isStar e = false) (hs2 : isStar f = false)
    (hbase : attributeBase o "get" X.env (eval o X.env) = eval o X.env) (hline : (apos.endLine == cpos.line) = true) : PE X (.Call (.Attribute o "get" apos) [e, f] [] cpos) (tD X.K (kDget dO dk dx)) := by
  have ha : PA X [e, f] (tCons (tD X.K dk) (tCons (tD X.K dx) tNil)) := pa_cons hk (pa_cons hx pa_nil (star_cons _ _ _ hs2)) (star_cons _ _ _ hs1)
  refine PE_weak (pe_bmG isD_ty PySem.F.plainAttrs_dict PySem.F.slot_dict_get PySem.F.type_dict_get (mt_dget2 hu) ho ha hbase hline (by simp [hs1, hs2]) (by simp)) fun σ H Q ⟨F, β, h, en, sm, gd, se, post⟩ => ?_
  refine bindE sm gd se post fun r v F1 β1 H1 h1 sm1 st1 gd1 se1 rr1 post1 => ?_
  split at post1
  case h_2 => exact post1.elim
  rename_i lds hv
  obtain ⟨l0, ds0⟩ := lds
  refine ⟨?_, ?_⟩
  · obtain ⟨a, vs, rfl, q, _⟩ := viewK_of sm1 gd1 rr1.rv hv
    exact ⟨a, rfl, .inl ⟨_, q⟩⟩
  refine bindE sm1 gd1 se1 post1 fun r2 v2 F2 β2 H2 h2 sm2 st2 gd2 se2 rr2 post2 => ?_
  refine bindE sm2 gd2 se2 post2 fun r3 v3 F3 β3 H3 h3 sm3 st3 gd3 se3 rr3 post3 => ?_
  unfold dOut at post3
  split at post3
  case h_2 => exact post3.elim
  rename_i z e3
  unfold dgetD at e3
  split at e3
  case h_2 => cases e3
  rename_i l ds z0 e1
  split at e3
  case h_2 => cases e3
  rename_i k e2
  cases e3
  obtain ⟨p, o, rfl, g, t⟩ := dget_of sm3 gd3 (RV.step st3 (RV.step st2 rr1.rv)) (RV.step st3 rr2.rv) e1 e2
  refine ⟨p, v2, v3, o, rfl, rfl, g, post3 _ F3 β3 H3 sm3 .refl gd3 ?_⟩
  split at t
  · rename_i d hd
    obtain ⟨w, rfl, rw'⟩ := t
    rw [hd]
    exact rw'
  · rename_i hd
    rw [t, hd]
    exact rr3
/-! ### t.index(x) -/
theorem mt_tix : MtR X "tuple.index" (fun x xs H Q => ∃ (a : Addr) (ns : List Int) (i : Int), x = .ref a ∧ xs = [.int i] ∧ SqT X.K H a (ns.map V.int) ∧ i ∈ ns ∧ Q (.int (ns.idxOf i : Nat)) H) := by
  intro pins s σ H x xs v us Q I rx rv ⟨a, ns, i, ex, exs, hq, hm, q⟩
  subst ex exs
  cases (show v = Value.ref a from rx)
  obtain ⟨u1, rfl, t, rfl⟩ := vals1 rv
  obtain ⟨its, r1, p1, _⟩ := I.tuple hq
  exact PySem.SeqAt.tuple_index_ints (l := a) (vs := its) p1 (by simpa using intsAre_of r1) hm ⟨.int (ns.idxOf i : Nat), H, I.tok _, ⟨_, rfl⟩, q⟩
def XtAt (H : Hp) (a : Addr) : Prop := ∃ (o : Obj) (xs : List V), o.dict = none ∧ H a = some (.frz o (.tup xs))
theorem xt_ty (pins : List (Addr × Obj)) (s : Shared) (σ : L2.St) (H : Hp) (x : V) (v : Value) (I : L2.Inv X pins σ H s) (r : RelV x v) (t : ∃ a, x = .ref a ∧ XtAt H a) : s.TypeIs v "tuple" ∧ ∀ a, v = .ref a → ∃ ob, s.heap.get? a = some ob ∧ ob.dict = none := by
  obtain ⟨a, rfl, o, xs, d, f⟩ := t
  cases (show v = Value.ref a from r)
  obtain ⟨e1, _, its, _, ob, e2, hc, _⟩ := I.hok a _ f
  rw [e1] at e2
  cases e2
  exact ⟨⟨o, e1, hc⟩, fun b e => by cases e; exact ⟨o, e1, d⟩⟩
theorem pd_Tix (ho : PE X o (tD X.K dO)) (hk : PE X e (tD X.K dk)) (hs1 : isStar e = false)
    (hbase : attributeBase o "index" X.env (eval o X.env) = eval o X.env) (hline : (apos.endLine == cpos.line) = true) : PE X (.Call (.Attribute o "index" apos) [e] [] cpos) (tD X.K (kTix dO dk)) := by
  have ha : PA X [e] (tCons (tD X.K dk) tNil) := pa_cons hk pa_nil (star_cons _ _ _ hs1)
  refine PE_weak (pe_bmG xt_ty PySem.F.plainAttrs_tuple PySem.F.slot_tuple_index PySem.F.type_tuple_index mt_tix ho ha hbase hline (by simp [hs1]) (by simp)) fun σ H Q ⟨F, β, h, en, sm, gd, se, post⟩ => ?_
  refine bindE sm gd se post fun r v F1 β1 H1 h1 sm1 st1 gd1 se1 rr1 post1 => ?_
  split at post1
  case h_2 => exact post1.elim
  rename_i ds
  obtain ⟨a, vs, rfl, ⟨n, o, dn, f⟩, w⟩ := id rr1
  refine ⟨⟨a, rfl, o, vs, dn, sm1 _ _ f⟩, ?_⟩
  refine bindE sm1 gd1 se1 post1 fun r2 v2 F2 β2 H2 h2 sm2 st2 gd2 se2 rr2 post2 => ?_
  unfold ofO at post2
  split at post2
  case h_2 => exact post2.elim
  rename_i z e3
  unfold tixD at e3
  split at e3
  case h_2 => cases e3
  rename_i ds' i e0
  cases e0
  split at e3
  case h_2 => cases e3
  rename_i ns hn
  split at e3
  case isFalse => cases e3
  rename_i hlt
  cases e3
  cases (show v2 = .int i from rr2)
  cases VRs.intsD w hn
  have f2 := st2.kp a _ f
  exact ⟨a, ns, i, rfl, rfl, .inl (.inr ⟨o, sm2 _ _ (f2.2 n)⟩), List.idxOf_lt_length_iff.mp hlt, post2 _ F2 β2 H2 sm2 .refl gd2 rfl⟩
end
end MP
end

section
set_option Elab.async false
set_option linter.all false
set_option maxRecDepth 100000
set_option maxHeartbeats 4000000
namespace MP
open PySem PySem.Spec L2 PyProof.Rows
/-! ### binding -/
theorem lookup_none : ∀ {l : List (Str × Value)} {k : Str}, k ∉ l.map (·.1) → l.lookup k = none
  | [], _, _ => rfl
  | (n, v) :: r, k, h => by
    rw [List.map_cons, List.mem_cons, not_or] at h
    rw [List.lookup_cons]
    have : (k == n) = false := by simpa using h.1
    rw [this]
    exact lookup_none h.2
theorem loopB (f : Str × Value → List (Str × Value) × List (Str × Value) → Sem (ForInStep (List (Str × Value) × List (Str × Value)))) : ∀ (kw slots : List (Str × Value)), (∀ slots' x, x ∈ kw → slots'.lookup x.1 = none → f x (slots', []) = pure (.yield (slots' ++ [(x.1, x.2)], []))) → (slots.map (·.1) ++ kw.map (·.1)).Nodup →
    forIn kw (slots, []) f = (pure (slots ++ kw, []) : Sem _)
  | [], slots, _, _ => by rw [List.forIn_nil, List.append_nil]
  | x :: r, slots, h, nd => by
    have h0 : slots.lookup x.1 = none := lookup_none fun z => by
      rw [List.nodup_append] at nd
      exact nd.2.2 _ z x.1 (by simp) rfl
    rw [List.forIn_cons, h slots x List.mem_cons_self h0]
    show forIn r (slots ++ [x], []) f = _
    rw [loopB f r (slots ++ [x]) (fun s y hy => h s y (List.mem_cons_of_mem _ hy)) (by simpa using nd)]
    simp
/-- parameters without defaults -/
structure Simple (fd : FuncData) (ps : List Str) : Prop where
  po : fd.params.posonlyargs = []
  ar : fd.params.args.map (·.arg) = ps
  ko : fd.params.kwonlyargs = []
  va : fd.params.vararg = none
  kw : fd.params.kwarg = none
  df : fd.defaults = .none
theorem bind_gen {fd : FuncData} {ps : List Str} {us : List Value} {kw : List (Str × Value)} (S : Simple fd ps)
    (h1 : ∀ k ∈ kw, k.1 ∈ ps) (hnd : ((ps.zip us).map (·.1) ++ kw.map (·.1)).Nodup) (hl : us.length + kw.length = ps.length) (hall : ∀ n ∈ ps, ((ps.zip us ++ kw).lookup n).isSome = true) :
    bindArgs fd ⟨us, kw⟩ = pure (ps.filterMap fun n => ((ps.zip us ++ kw).lookup n).map (n, ·)) := by
  unfold bindArgs
  simp only [S.po, S.ar, S.ko, S.va, S.kw, S.df, List.map_nil, List.nil_append, List.append_nil]
  rw [loopB _ kw (ps.zip us) (fun slots' x hx hn => ?_) hnd]
  · have e1 : ¬ us.length > ps.length := by omega
    have e2 : (ps.take (ps.length - ([] : List Value).length)).filter (fun n => ((ps.zip us ++ kw).lookup n).isNone) = [] := by
      rw [List.filter_eq_nil_iff]
      intro n hn
      have := hall n (List.mem_of_mem_take hn)
      cases hh : (ps.zip us ++ kw).lookup n with
      | none => rw [hh] at this; cases this
      | some v => simp
    show (do
      let __do_lift ← seqItems? Value.none
      _) = _
    show (if (decide (us.length > ps.length) && Option.isNone none) = true then _ else _) = _
    rw [if_neg (by simpa using e1)]
    have e4 : List.drop (((none : Option (Array Value)).getD #[]).toList.length - ps.length) ((none : Option (Array Value)).getD #[]).toList = [] := by simp
    simp only [e4]
    rw [e2, if_neg (by simp)]
    have e3 : (ps.drop (ps.length - ([] : List Value).length)).zip ([] : List Value) = [] := by simp
    rw [e3]
    rfl
  · have c : ps.contains x.1 = true := by simpa using h1 x hx
    rw [c, hn]
    rfl
/-- the picked places -/
def pick {α : Type} (l : List α) (pm : List Nat) : List α := pm.filterMap fun i => l[i]?
theorem zip_at : ∀ {ns : List Str} {vs : List Value} {i : Nat} {x : Str} {v : Value}, ns.Nodup → ns[i]? = some x → vs[i]? = some v → (ns.zip vs).lookup x = some v
  | n :: ns, w :: vs, 0, x, v, _, h1, h2 => by
    cases (show n = x by simpa using h1)
    cases (show w = v by simpa using h2)
    rw [List.zip_cons_cons, List.lookup_cons]
    simp
  | n :: ns, w :: vs, i + 1, x, v, nd, h1, h2 => by
    rw [List.nodup_cons] at nd
    have h1 : ns[i]? = some x := by simpa using h1
    have h2 : vs[i]? = some v := by simpa using h2
    rw [List.zip_cons_cons, List.lookup_cons]
    have : (x == n) = false := beq_eq_false_iff_ne.mpr fun e => nd.1 (e ▸ List.mem_of_getElem? h1)
    rw [this]
    exact zip_at nd.2 h1 h2
theorem pick_zip {ns : List Str} {vs : List Value} (nd : ns.Nodup) (hl : ns.length = vs.length) : ∀ {pm : List Nat} {ps : List Str}, pm.map (ns[·]?) = ps.map some → (ps.filterMap fun n => ((ns.zip vs).lookup n).map (n, ·)) = ps.zip (pick vs pm) ∧ ∀ n ∈ ps, ((ns.zip vs).lookup n).isSome = true
  | [], [], _ => ⟨rfl, by simp⟩
  | i :: pm, p :: ps, h => by
    simp only [List.map_cons, List.cons.injEq] at h
    have hi := (List.getElem?_eq_some_iff.mp h.1).1
    have hv : vs[i]? = some (vs[i]'(by omega)) := List.getElem?_eq_getElem (by omega)
    obtain ⟨h1, h2⟩ := pick_zip nd hl h.2
    have hz := zip_at nd h.1 hv
    refine ⟨?_, fun n hn => ?_⟩
    · rw [List.filterMap_cons, hz]
      show (p, vs[i]) :: _ = _
      rw [h1]
      unfold pick
      rw [List.filterMap_cons, hv]
      rfl
    · rcases List.mem_cons.mp hn with z | z
      · rw [z, hz]; rfl
      · exact h2 n z
theorem zip_take : ∀ (us : List Value) (ps : List Str), us.length ≤ ps.length → ps.zip us = (ps.take us.length).zip us ∧ (ps.zip us).map (·.1) = ps.take us.length
  | [], ps, _ => by simp
  | u :: r, [], h => by simp at h
  | u :: r, p :: q, h => by
    obtain ⟨h1, h2⟩ := zip_take r q (by simpa using h)
    rw [List.zip_cons_cons, List.length_cons, List.take_succ_cons, List.zip_cons_cons, ← h1, List.map_cons, h2]
    exact ⟨rfl, rfl⟩
/-- positional values, then keywords -/
def pmOk (ps : List Str) (n : Nat) (ks : List Str) (pm : List Nat) : Bool := decide (n ≤ ps.length) && decide ((ps.take n ++ ks).Nodup) && decide (n + ks.length = ps.length) && (decide (pm.map ((ps.take n ++ ks)[·]?) = ps.map some) && ks.all fun k => decide (k ∈ ps))
theorem binds_of {fd : FuncData} {ps ks : List Str} {us ws : List Value} {pm : List Nat} (S : Simple fd ps) (h : pmOk ps us.length ks pm = true) (hw : ws.length = ks.length) (s : Shared) : BindsTo s fd ⟨us, ks.zip ws⟩ (ps.zip (pick (us ++ ws) pm)) := by
  unfold pmOk at h
  simp only [Bool.and_eq_true, decide_eq_true_eq] at h
  obtain ⟨⟨⟨h1, h2⟩, h3⟩, h4, h5⟩ := h
  have ez : ps.zip us ++ ks.zip ws = (ps.take us.length ++ ks).zip (us ++ ws) := by
    rw [List.zip_append (by rw [List.length_take]; omega)]
    congr 1
    exact (zip_take us ps h1).1
  have hlen : (ps.take us.length ++ ks).length = (us ++ ws).length := by
    rw [List.length_append, List.length_append, List.length_take]; omega
  obtain ⟨p1, p2⟩ := pick_zip h2 hlen h4
  rw [← ez] at p1 p2
  have e1 : (ps.zip us).map (·.1) = ps.take us.length := by
    exact (zip_take us ps h1).2
  have e2 : (ks.zip ws).map (·.1) = ks := by
    rw [List.map_fst_zip]; omega
  refine .of_eq ?_
  rw [bind_gen S (fun k hk => ?_) (by rw [e1, e2]; exact h2) (by rw [List.length_zip]; omega) p2, p1]
  have := (List.of_mem_zip hk).1
  exact of_decide_eq_true (List.all_eq_true.mp h5 _ this)
end MP
end

section
set_option Elab.async false
set_option linter.all false
set_option maxRecDepth 100000
set_option maxHeartbeats 4000000
namespace MP
open PySem PySem.Spec L2 PyProof.Rows
/-! ### a call that sees no list of the heap -/
section
variable {K : Kf} {F F' H H' : Hp} {β β' : List Addr} {h h' : Hh}
open Classical in
/-- all but the heap's lists -/
noncomputable def less (F : Hp) (β : List Addr) : Hp := fun a => if a ∈ β then none else F a
open Classical in
noncomputable def both (F F' : Hp) (β : List Addr) : Hp := fun a => if a ∈ β then F a else F' a
theorem less_in {a : Addr} (m : a ∈ β) : less F β a = none := by unfold less; rw [if_pos m]
theorem less_out {a : Addr} (m : a ∉ β) : less F β a = F a := by unfold less; rw [if_neg m]
theorem both_in {a : Addr} (m : a ∈ β) : both F F' β a = F a := by unfold both; rw [if_pos m]
theorem both_out {a : Addr} (m : a ∉ β) : both F F' β a = F' a := by unfold both; rw [if_neg m]
theorem Rd.less {a : Addr} {u : HO} (m : a ∉ β) (r : Rd F a u) : Rd (less F β) a u := by
  rcases r with r | ⟨o, r⟩
  · exact .inl (by rw [less_out m]; exact r)
  · exact .inr ⟨o, by rw [less_out m]; exact r⟩
mutual
theorem VR.less : ∀ (d : D) (v : V), VR K F β d v → lowD 0 d = true → VR K (less F β) [] d v
  | .non, _, h, _ => h
  | .bl _, _, h, _ => h
  | .int _, _, h, _ => h
  | .str _, _, h, _ => h
  | .rp _, _, h, _ => h
  | .tup ds, _, ⟨a, vs, e1, r, q⟩, l => by
    unfold lowD at l
    refine ⟨a, vs, e1, ?_, VRs.less ds vs q l⟩
    rcases r with ⟨n, r⟩ | r
    · exact .inl ⟨by simp, MP.Rd.less n r⟩
    · exact .inr r
  | .lst ds, _, ⟨a, vs, e1, r, q⟩, l => by
    unfold lowD at l
    exact ⟨a, vs, e1, ⟨by simp, MP.Rd.less r.1 r.2⟩, VRs.less ds vs q l⟩
  | .ref n, _, _, l => by unfold lowD at l; simp at l
  | .dct ks ds, _, ⟨a, vs, e1, r, z, q⟩, l => by
    unfold lowD at l
    exact ⟨a, vs, e1, ⟨by simp, MP.Rd.less r.1 r.2⟩, z, VRs.less ds vs q l⟩
  | .xt ds, _, ⟨a, vs, e1, ⟨n, o, d, f⟩, q⟩, l => by
    unfold lowD at l
    exact ⟨a, vs, e1, ⟨by simp, o, d, by rw [less_out n]; exact f⟩, VRs.less ds vs q l⟩
theorem VRs.less : ∀ (ds : List D) (vs : List V), VRs K F β ds vs → lowAll 0 ds = true → VRs K (less F β) [] ds vs
  | [], _, h, _ => h
  | d :: ds, _, ⟨v, r, e1, h1, h2⟩, l => by
    unfold lowAll at l
    rw [Bool.and_eq_true] at l
    exact ⟨v, r, e1, VR.less d v h1 l.1, VRs.less ds r h2 l.2⟩
end
mutual
/-- what stands over no list of the heap, stands beside them -/
theorem VR.beside (o : ∀ a u, F a = some u → a ∉ β) (k : ∀ a u, F a = some u → F' a = some u) : ∀ (d : D) (v : V), VR K F [] d v → VR K F' β d v
  | .non, _, h => h
  | .bl _, _, h => h
  | .int _, _, h => h
  | .str _, _, h => h
  | .rp _, _, h => h
  | .tup ds, _, ⟨a, vs, e1, r, q⟩ => by
    refine ⟨a, vs, e1, ?_, VRs.beside o k ds vs q⟩
    rcases r with ⟨_, r⟩ | r
    · rcases r with r | ⟨u, r⟩
      · exact .inl ⟨o _ _ r, .inl (k _ _ r)⟩
      · exact .inl ⟨o _ _ r, .inr ⟨u, k _ _ r⟩⟩
    · exact .inr r
  | .lst ds, _, ⟨a, vs, e1, r, q⟩ => by
    refine ⟨a, vs, e1, ?_, VRs.beside o k ds vs q⟩
    rcases r with ⟨_, r | ⟨u, r⟩⟩
    · exact ⟨o _ _ r, .inl (k _ _ r)⟩
    · exact ⟨o _ _ r, .inr ⟨u, k _ _ r⟩⟩
  | .ref n, _, ⟨a, e, _⟩ => by simp at e
  | .dct ks ds, _, ⟨a, vs, e1, r, z, q⟩ => by
    refine ⟨a, vs, e1, ?_, z, VRs.beside o k ds vs q⟩
    rcases r with ⟨_, r | ⟨u, r⟩⟩
    · exact ⟨o _ _ r, .inl (k _ _ r)⟩
    · exact ⟨o _ _ r, .inr ⟨u, k _ _ r⟩⟩
  | .xt ds, _, ⟨a, vs, e1, ⟨_, u, d, r⟩, q⟩ => ⟨a, vs, e1, ⟨o _ _ r, u, d, k _ _ r⟩, VRs.beside o k ds vs q⟩
theorem VRs.beside (o : ∀ a u, F a = some u → a ∉ β) (k : ∀ a u, F a = some u → F' a = some u) : ∀ (ds : List D) (vs : List V), VRs K F [] ds vs → VRs K F' β ds vs
  | [], _, h => h
  | d :: ds, _, ⟨v, r, e1, h1, h2⟩ => ⟨v, r, e1, VR.beside o k d v h1, VRs.beside o k ds r h2⟩
end
theorem pure_call {cl : Cl} {f : Nat} {ds : List D} {Q : VK} (sm : Same F H) (gd : Good K F β h) (l : lowAll 0 ds = true) {r : R} (e : cl f ds [] = .ok r []) (post : PostE K F β H (.ok r h) Q) :
    Same (less F β) H ∧ Good K (less F β) [] [] ∧ PostE K (less F β) [] H (cl f ds []) Q := by
  refine ⟨fun a o z => ?_, ⟨List.nodup_nil, rfl, fun n a o z => by simp at z⟩, ?_⟩
  · by_cases m : a ∈ β
    · rw [less_in m] at z; cases z
    · rw [less_out m] at z; exact sm a o z
  · rw [e]
    intro v F' β' H' sm' st' gd' rr
    have hβ : β' = [] := by have := gd'.len; simpa using this
    subst hβ
    have nofr : ∀ a u, F' a = some u → a ∉ β := fun a u z m => by
      obtain ⟨_, vs, _, _, _, f, _⟩ := gd.mem m
      rw [(st'.hid a _ (less_in m) (sm _ _ f)).1] at z
      cases z
    have kp : ∀ a o, F a = some o → both F F' β a = some o := fun a o z => by
      by_cases m : a ∈ β
      · rw [both_in m]; exact z
      · rw [both_out m]
        exact (st'.kp a o (by rw [less_out m]; exact z)).2 (by simp)
    have x : Ext F β (both F F' β) β := ⟨fun _ _ z => z, fun a o z m => ⟨kp a o z, m⟩⟩
    refine post v (both F F' β) β H' (fun a o z => ?_) ⟨⟨[], by simp, fun _ z => by simp at z⟩, fun a o z => ⟨⟨o, kp a o z⟩, fun _ => kp a o z⟩, fun a o z w => ?_⟩ ⟨gd.nd, gd.len, fun n a o e1 e2 => ?_⟩ ?_
    · by_cases m : a ∈ β
      · rw [both_in m] at z
        exact (st'.hid a o (less_in m) (sm _ _ z)).2
      · rw [both_out m] at z; exact sm' a o z
    · have m : a ∉ β := fun m => by
        obtain ⟨_, vs, _, _, _, f, _⟩ := gd.mem m
        rw [f] at z; cases z
      rw [both_out m]
      exact st'.hid a o (by rw [less_out m]; exact z) w
    · exact OR.more x (fun u z => kp _ _ z) (gd.ob n a o e1 e2)
    · have k2 : ∀ a u, F' a = some u → both F F' β a = some u := fun a u z => by rw [both_out (nofr a u z)]; exact z
      cases r with
      | d y => exact VR.beside nofr k2 y v rr
      | fl es =>
        obtain ⟨a, vs, rfl, n0, f, q, w⟩ := rr
        refine ⟨a, vs, rfl, n0, ?_, q, VRs.beside nofr k2 es vs w⟩
        have m : a ∉ β := fun m => by
          obtain ⟨_, ws, _, _, _, f, _⟩ := gd.mem m
          rw [sm _ _ f] at n0; cases n0
        rw [both_out m]; exact f
end

/-! ### what a def promises -/
def spR (K : Kf) (cl : Cl) (i n : Nat) : Sp := fun vs H Q _ => vs.length = n ∧ ∃ F β h ds, Same F H ∧ Good K F β h ∧ VRs K F β ds vs ∧ PostE K F β H (cl i ds h) Q
structure FnM (P : Program) (w : World) (K : Kf) (mg : Str → Option Value) (base : Heap) (CX : CXT) (k : Nat) (f : Addr) (fd : FuncData) (ps : List Str) (sp : Sp) : Prop where
  len : ∀ vs H Q E, sp vs H Q E → vs.length = ps.length
  run : ∀ (A : Around) (outer : List Env) (s : Shared) (H : Hp) (args : Args) (us : List Value) (vs : List V) (Q : VK) (E : XK), Room k A → A.guards = some [] → Env0 P w K mg base A outer s H → BindsTo s fd args (ps.zip us) → Vals vs us → sp vs H Q E →
    codeAny (model P w) A (.call (.ref f) args) (CR CX outer P w H s Q E) s
def noX : CXT := fun _ _ _ _ _ _ => False
section
variable {X : Cx} {k : Nat} {f : Addr} {fd : FuncData} {ps ks : List Str} {sp : Sp} {x : Str} {p pos kpos : Pos} {e : Expr} {es : List Expr} {kws : List Keyword} {da dk : DenL} {pm : List Nat}
theorem run_m {pins : List (Addr × Obj)} {σ : L2.St} {H : Hp} {s : Shared} {Q : VK} {us ws : List Value} {vs zs : List V} (M : FnM X.prog X.w X.K X.mg X.base noX k f fd ps sp) (hr : Room k X.A) (hg : X.A.guards = some [])
    (S : Simple fd ps) (hpm : pmOk ps us.length ks pm = true) (hw : ws.length = ks.length) (I : L2.Inv X pins σ H s) (r : Vals (pick (vs ++ zs) pm) (pick (us ++ ws) pm)) (h : sp (pick (vs ++ zs) pm) H Q fun _ _ _ => False) :
    wpAny (model X.prog X.w) X.A (call (.ref f) us (ks.zip ws)) (EP X pins σ Q) X.xe s := by
  have go := M.run X.A X.stack s H ⟨us, ks.zip ws⟩ (pick (us ++ ws) pm) _ Q _ hr hg I.env0 (binds_of S hpm hw s) r h
  refine wpAny_call (codeAny_mono go fun o s' hq => ?_)
  match o, hq with
  | .ok (.ret u), hq => exact I.after hq
theorem vals_pick {xs : List V} {us : List Value} (r : Vals xs us) : ∀ pm : List Nat, Vals (pick xs pm) (pick us pm)
  | [] => .nil
  | i :: pm => by
    unfold pick
    rw [List.filterMap_cons, List.filterMap_cons]
    cases hx : xs[i]? with
    | none =>
      have : us[i]? = none := by rw [List.getElem?_eq_none_iff] at hx ⊢; rw [← r.length]; exact hx
      rw [this]
      exact vals_pick r pm
    | some v =>
      obtain ⟨u, hu, rv⟩ := r.get hx
      rw [hu]
      exact .cons rv (vals_pick r pm)
theorem vrs_pick {K : Kf} {F : Hp} {β : List Addr} {rs : List R} {vs : List V} (w : VRs K F β (rs.map R.toD) vs) : ∀ {pm : List Nat} {zs : List R}, allO (pm.map fun i => rs[i]?) = some zs → VRs K F β (zs.map R.toD) (pick vs pm)
  | [], zs, h => by cases h; exact rfl
  | i :: pm, zs, h => by
    obtain ⟨z, qs, rfl, h1, h2⟩ := allO_cons (show allO (rs[i]? :: pm.map fun i => rs[i]?) = some zs from h)
    obtain ⟨v, hv, wv⟩ := w.get (i := i) (d := z.toD) (by rw [List.getElem?_map, h1]; rfl)
    unfold pick
    rw [List.filterMap_cons, hv]
    exact ⟨v, _, rfl, wv, vrs_pick w h2⟩
theorem call_sp {cl : Cl} {i n : Nat} {K : Kf} {F F0 H H₀ : Hp} {β β0 : List Addr} {h : Hh} {rs : List R} {zs : List R} {vs : List V} {Q : VK} {E : XK} (sm0 : Same F0 H₀) (st : Step F0 β0 H₀ F β H) (sm : Same F H) (gd : Good K F β h) (rr : RRs K F β H₀ H rs vs) (nd : (flA rs vs).Nodup)
    (hz : allO (pm.map fun i => rs[i]?) = some zs) (hlen : ∀ vs H Q E, spR K cl i n vs H Q E → vs.length = n) (hn : (pick vs pm).length = n) (post : PostE K F0 β0 H₀ (callD cl i (zs.map R.toD) h) Q) : spR K cl i n (pick vs pm) H Q E := by
  refine ⟨hn, ?_⟩
  obtain ⟨F2, k1, k2, k3, k4⟩ := freezeAll sm0 st sm gd rr nd
  have w := vrs_pick k4 hz
  have gd2 := gd.more k1
  have post := PostE.shift sm0 k3 k2 post
  unfold callD at post
  split at post
  · rename_i hl
    split at post
    · rename_i r e
      obtain ⟨a1, a2, a3⟩ := pure_call (cl := cl) (f := i) k2 gd2 hl e post
      exact ⟨less F2 β, [], [], zs.map R.toD, a1, a2, VRs.less _ _ w hl, a3⟩
    · exact post.elim
    · exact ⟨F2, β, h, zs.map R.toD, k2, gd2, w, post⟩
  · exact ⟨F2, β, h, zs.map R.toD, k2, gd2, w, post⟩
def kwNames (kws : List Keyword) : List Str := kws.filterMap fun k => k.arg
def kwAll (kws : List Keyword) : Bool := kws.all fun k => k.arg.isSome
theorem kw_all (pos : Pos) : ∀ kws : List Keyword, kwAll kws = true → (backToKw pos (keywordEach kws X.env)).all (·.1.isSome) = true ∧ (backToKw pos (keywordEach kws X.env)).any (·.1.isNone) = false ∧ (backToKw pos (keywordEach kws X.env)).filterMap (·.1) = kwNames kws
  | [], _ => ⟨rfl, rfl, rfl⟩
  | ⟨nm, e, kp⟩ :: kws, h => by
    unfold kwAll at h
    rw [List.all_cons, Bool.and_eq_true] at h
    obtain ⟨h1, h2, h3⟩ := kw_all pos kws h.2
    cases nm with
    | none => simp at h
    | some n =>
      refine ⟨?_, ?_, ?_⟩
      · show (true && _) = true
        rw [Bool.true_and]; exact h1
      · show (false || _) = false
        rw [Bool.false_or]; exact h2
      · show n :: (backToKw pos (keywordEach kws X.env)).filterMap (·.1) = n :: kwNames kws
        rw [h3]
theorem pk_Nil : PK X [] (tL X.K kNil) :=
  ⟨fun pos pins s σ H Q I ⟨F, β, h, en, sm, gd, se, post⟩ => pk_nil.run pos pins s σ H Q I (post [] F β H sm .refl gd rfl (by simp [flA]))⟩
theorem cons_weak {d : Den} {ds : DenL} : ∀ σ H Q, tL X.K (kCons d ds) σ H Q → tCons (tD X.K d) (tL X.K ds) σ H Q := fun σ H Q ⟨F, β, h, en, sm, gd, se, post⟩ => by
  refine ⟨F, β, h, en, sm, gd, se, ?_⟩
  have post : PostL X.K F β H ((d en h).bind fun r h => (ds en h).bind fun rs h => .ok (r :: rs) h) Q := post
  cases hd : d en h with
  | er e h => rw [hd] at post; exact post
  | no => rw [hd] at post; exact post
  | ok r h1 =>
    rw [hd] at post
    intro v F1 β1 H1 sm1 st1 gd1 rr1
    refine ⟨F1, β1, h1, en, sm1, gd1, se.ext st1.ext, ?_⟩
    have post : PostL X.K F β H ((ds en h1).bind fun rs h => .ok (r :: rs) h) Q := post
    cases hds : ds en h1 with
    | er e h => rw [hds] at post; exact post
    | no => rw [hds] at post; exact post
    | ok rs h2 =>
      rw [hds] at post
      intro vs F2 β2 H2 sm2 st2 gd2 rr2 nd2
      refine post (v :: vs) F2 β2 H2 sm2 (Step.trans sm st1 st2) gd2 ⟨v, vs, rfl, rr1.step st2, rr2.back sm st1 sm1⟩ ?_
      cases r with
      | d y => exact nd2
      | fl l =>
        obtain ⟨a, ws, rfl, _, _, q, _⟩ := rr1
        show (a :: flA rs vs).Nodup
        rw [List.nodup_cons]
        refine ⟨fun z => ?_, nd2⟩
        have w := (flA_none rr2 a z).1
        rw [q] at w; cases w
theorem pk_Cons {d : Den} {ds : DenL} {nm : Option Str} (he : PE X e (tD X.K d)) (hr : PK X kws (tL X.K ds)) : PK X (⟨nm, e, kpos⟩ :: kws) (tL X.K (kCons d ds)) :=
  ⟨fun pos pins s σ H Q I h => (pk_cons he hr).run pos pins s σ H Q I (cons_weak σ H Q h)⟩
/-- the two lists of a call as one -/
theorem fla_app {K : Kf} {F : Hp} {β : List Addr} {H₀ H1 H : Hp} : ∀ {rs : List R} {vs : List V} {qs : List R} {ws : List V}, RRs K F β H₀ H rs vs → flA (rs ++ qs) (vs ++ ws) = flA rs vs ++ flA qs ws
  | [], _, qs, ws, h => by cases h; rfl
  | .d y :: rs, _, qs, ws, ⟨v, r, e, h1, h2⟩ => by
    subst e
    show flA (rs ++ qs) (r ++ ws) = flA rs r ++ flA qs ws
    exact fla_app (H1 := H1) (qs := qs) (ws := ws) h2
  | .fl y :: rs, _, qs, ws, ⟨v, r, e, h1, h2⟩ => by
    subst e
    obtain ⟨a, us, rfl, _⟩ := h1
    show a :: flA (rs ++ qs) (r ++ ws) = a :: (flA rs r ++ flA qs ws)
    rw [fla_app (H1 := H1) (qs := qs) (ws := ws) h2]
theorem rrs_app {K : Kf} {F : Hp} {β : List Addr} {H₀ H : Hp} : ∀ {rs : List R} {vs : List V} {qs : List R} {ws : List V}, RRs K F β H₀ H rs vs → RRs K F β H₀ H qs ws → RRs K F β H₀ H (rs ++ qs) (vs ++ ws)
  | [], _, qs, ws, h, q => by cases h; exact q
  | r :: rs, _, qs, ws, ⟨v, us, e, h1, h2⟩, q => by subst e; exact ⟨v, us ++ ws, rfl, h1, rrs_app h2 q⟩
theorem fla_stands {K : Kf} {F : Hp} {β : List Addr} {H₀ H : Hp} : ∀ {rs : List R} {vs : List V}, RRs K F β H₀ H rs vs → ∀ a ∈ flA rs vs, ∃ o, H a = some o
  | [], _, q, a, m => by cases q; exact nomatch m
  | .d x :: rs, _, ⟨w, ws, e, _, q2⟩, a, m => by
    subst e
    have m : a ∈ flA rs ws := m
    exact fla_stands q2 a m
  | .fl ds :: rs, _, ⟨w, ws, e, q1, q2⟩, a, m => by
    subst e
    obtain ⟨b, vs, rfl, n, f, q, _⟩ := q1
    rcases List.mem_cons.mp (show a ∈ b :: flA rs ws from m) with z | z
    · subst z; exact ⟨_, q⟩
    · exact fla_stands q2 a z
theorem kwLen : ∀ kws : List Keyword, kwAll kws = true → (kwNames kws).length = kws.length
  | [], _ => rfl
  | q :: r, h => by
    unfold kwAll at h
    rw [List.all_cons, Bool.and_eq_true] at h
    have ih := kwLen r h.2
    unfold kwNames at ih ⊢
    cases hq : q.arg with
    | none => rw [hq] at h; simp at h
    | some n => rw [List.filterMap_cons, hq]; simp [ih]
theorem rrs_len {K : Kf} {F : Hp} {β : List Addr} {H₀ H : Hp} : ∀ {rs : List R} {vs : List V}, RRs K F β H₀ H rs vs → vs.length = rs.length
  | [], _, r => by cases r; rfl
  | y :: l, _, ⟨v, us, e, _, r2⟩ => by subst e; rw [List.length_cons, List.length_cons, rrs_len r2]
theorem allO_len {α : Type} : ∀ {l : List (Option α)} {m : List α}, allO l = some m → m.length = l.length
  | [], _, h => by cases h; rfl
  | o :: l, _, h => by
    obtain ⟨z, qs, rfl, h1, h2⟩ := allO_cons h
    rw [List.length_cons, List.length_cons, allO_len h2]
/-- f(e, .., k = e, ..) -/
theorem call_walk {cl : Cl} {i : Nat} (M : FnM X.prog X.w X.K X.mg X.base noX k f fd ps (spR X.K cl i ps.length)) (hr : Room k X.A) (hgd : X.A.guards = some []) (S : Simple fd ps) (hpm : pmOk ps es.length (kwNames kws) pm = true)
    (hkl : kwAll kws = true) (hla : ∀ en h rs h', da en h = .ok rs h' → rs.length = es.length) (hlk : ∀ en h rs h', dk en h = .ok rs h' → rs.length = kws.length) (hpa : PA X es (tL X.K da)) (hpk : PK X kws (tL X.K dk)) {pins : List (Addr × Obj)} {s : Shared} {σ : L2.St} {H : Hp} {Q : VK} (I : L2.Inv X pins σ H s) (h0 : tD X.K (kCall cl i da dk pm) σ H Q) :
    wpAny (model X.prog X.w) X.A (spliced (backTo pos (starEach es X.env))) (fun us s1 => wpAny (model X.prog X.w) X.A (evalAll ((backToKw pos (keywordEach kws X.env)).map (·.2))) (fun ws s2 => X.K.In s2.heap ∧ wpAny (model X.prog X.w) X.A (call (.ref f) us ((kwNames kws).zip ws)) (EP X pins σ Q) X.xe s2) X.xe s1) X.xe s := by
  obtain ⟨F, β, h, en, sm, gd, se, post⟩ := h0
  unfold kCall at post
  cases hd : da en h with
  | er e h => rw [hd] at post; exact post.elim
  | no => rw [hd] at post; exact post.elim
  | ok rs h1 =>
  rw [hd] at post
  have post : PostE X.K F β H ((dk en h1).bind fun ys h => match allO (pm.map fun i => (rs ++ ys)[i]?) with
    | some zs => callD cl i (zs.map R.toD) h
    | none => .no) Q := post
  cases hk : dk en h1 with
  | er e h => rw [hk] at post; exact post.elim
  | no => rw [hk] at post; exact post.elim
  | ok qs h2 =>
  rw [hk] at post
  have post : PostE X.K F β H (match allO (pm.map fun i => (rs ++ qs)[i]?) with
    | some zs => callD cl i (zs.map R.toD) h2
    | none => .no) Q := post
  split at post
  case h_2 => exact post.elim
  rename_i zs hzs
  refine thn (hpa.run pos pins s σ H (fun vs H1 => ∃ F1 β1, Same F1 H1 ∧ Step F β H F1 β1 H1 ∧ Good X.K F1 β1 h1 ∧ RRs X.K F1 β1 H H1 rs vs ∧ (flA rs vs).Nodup) I ⟨F, β, h, en, sm, gd, se, ?_⟩) fun us s1 ⟨vs, H1, I1, r1, F1, β1, sm1, st1, gd1, rr1, nd1⟩ => ?_
  · rw [hd]
    exact fun vs F' β' H' a b c d e => ⟨F', β', a, b, c, d, e⟩
  refine thn (hpk.run pos pins s1 σ H1 (fun ws H2 => ∃ F2 β2, Same F2 H2 ∧ Step F1 β1 H1 F2 β2 H2 ∧ Good X.K F2 β2 h2 ∧ RRs X.K F2 β2 H1 H2 qs ws ∧ (flA qs ws).Nodup) I1 ⟨F1, β1, h1, en, sm1, gd1, se.ext st1.ext, ?_⟩) fun ws s2 ⟨zs', H2, I2, r2, F2, β2, sm2, st2, gd2, rr2, nd2⟩ => ⟨I2.kIn, ?_⟩
  · rw [hk]
    exact fun vs F' β' H' a b c d e => ⟨F', β', a, b, c, d, e⟩
  have lu : us.length = es.length := by rw [← r1.length, rrs_len rr1, hla _ _ _ _ hd]
  have lw : ws.length = (kwNames kws).length := by
    have hn := kwLen kws hkl
    rw [← r2.length, rrs_len rr2, hlk _ _ _ _ hk, hn]
  have rrA := rrs_app (rr1.step st2) (rr2.back sm st1 sm1)
  have ndA : (flA (rs ++ qs) (vs ++ zs')).Nodup := by
    rw [fla_app (H1 := H1) rr1, List.nodup_append]
    refine ⟨nd1, nd2, fun a ha b hb e => ?_⟩
    subst e
    obtain ⟨o, z⟩ := fla_stands rr1 a ha
    rw [(flA_none rr2 a hb).1] at z
    cases z
  have lz := allO_len hzs
  have lpm : pm.length = ps.length := by
    unfold pmOk at hpm
    simp only [Bool.and_eq_true, decide_eq_true_eq] at hpm
    have := congrArg List.length hpm.2.1
    simpa using this
  have lp : (pick (vs ++ zs') pm).length = ps.length := by
    obtain ⟨F3, _, _, _, k4⟩ := freezeAll sm (Step.trans sm st1 st2) sm2 gd2 rrA ndA
    rw [(vrs_pick k4 hzs).len, List.length_map, lz, List.length_map, lpm]
  exact run_m M hr hgd S (by rw [lu]; exact hpm) lw I2 (vals_pick (r1.append r2) pm) (call_sp sm (Step.trans sm st1 st2) sm2 gd2 rrA ndA hzs M.len lp post)
theorem pd_Call {cl : Cl} {i : Nat} (M : FnM X.prog X.w X.K X.mg X.base noX k f fd ps (spR X.K cl i ps.length)) (hr : Room k X.A) (hgd : X.A.guards = some []) (S : Simple fd ps) (hg : Gl X x) (hm : X.mg x = some (.ref f)) (hk : PySem.W.keepIn X.K (.ref f) = true) (hdb : (x == ("__debug__" : Str)) = false)
    (hpm : pmOk ps es.length (kwNames kws) pm = true) (hst : es.all (fun e => !isStar e) = true)
    (hkl : kwAll kws = true) (hla : ∀ en h rs h', da en h = .ok rs h' → rs.length = es.length) (hlk : ∀ en h rs h', dk en h = .ok rs h' → rs.length = kws.length) (hpa : PA X es (tL X.K da)) (hpk : PK X kws (tL X.K dk)) :
    PE X (.Call (.Name x p) es kws pos) (tD X.K (kCall cl i da dk pm)) := by
  refine ⟨fun pins s σ H Q I h0 => ?_⟩
  refine wpAny_Call_Name_kw (ld_glob I hg hm ?_ hdb)
  have w := call_walk (pos := pos) M hr hgd S hpm hkl hla hlk hpa hpk I h0
  obtain ⟨k1, k2, k3⟩ := kw_all (X := X) pos kws hkl
  cases es with
  | nil =>
    refine PySem.W.callWith_KW0 (h₀ := X.base) I.ok.mod.kin hk k1 ?_ (by rw [k2]; rfl)
    rw [k3]
    exact fun Γ p hΓ => w Γ p hΓ Γ p hΓ
  | cons e es =>
    rw [List.all_cons, Bool.and_eq_true] at hst
    refine PySem.W.callWith_KW (h₀ := X.base) I.ok.mod.kin hk k1 ?_ ?_ (star_cons e es X.env (by simpa using hst.1))
    · rw [k3]
      exact w
    · rw [k2, star_back pos X.env (e :: es) (by rw [List.all_cons, Bool.and_eq_true]; exact hst)]
      rfl
end
end MP
end

section
set_option Elab.async false
set_option linter.all false
set_option maxRecDepth 100000
set_option maxHeartbeats 4000000
namespace MP
open PySem PySem.Spec L2 PyProof.Rows
/-! ### sequences of both kinds: t says tuple -/
def SqK (t : Bool) (K : Kf) (H : Hp) (a : Addr) (xs : List V) : Prop := match t with
  | true => SqT K H a xs
  | false => SqL K H a xs
def ObK (t : Bool) (h : Heap) (a : Addr) (its : Array Value) : Prop := match t with
  | true => h.IsTuple a its
  | false => h.IsList a its
def ItrK (t : Bool) (h : Heap) (it a : Addr) (i : Nat) : Prop := match t with
  | true => h.IsTupleIter it a i
  | false => h.IsListIter it a i
def itObj (t : Bool) (a : Addr) : Obj := { cls := .type (if t then "tuple_iterator" else "list_iterator"), data := .fields #[.ref a, .int 0 0] }
theorem ItrK.at {t : Bool} {h h' : Heap} {it a : Addr} {i : Nat} (x : ItrK t h it a i) (e : ∀ o, h.get? it = some o → h'.get? it = some o) : ItrK t h' it a i := by
  cases t with
  | true => exact Heap.IsTupleIter.at x e
  | false => exact Heap.IsListIter.at x e
theorem ItrK.obj {t : Bool} {h : Heap} {it a : Addr} {i : Nat} (x : ItrK t h it a i) : ∃ o, h.get? it = some o ∧ ∀ v, o.data ≠ .cell v := by
  cases t with
  | true => obtain ⟨o, e, _, d⟩ := x; exact ⟨o, e, fun v q => by rw [d] at q; cases q⟩
  | false => obtain ⟨o, e, _, d⟩ := x; exact ⟨o, e, fun v q => by rw [d] at q; cases q⟩
theorem ItrK.new {t : Bool} {h : Heap} {it a : Addr} (e : h.get? it = some (itObj t a)) : ItrK t h it a 0 := by
  cases t with
  | true => exact ⟨_, e, rfl, rfl⟩
  | false => exact ⟨_, e, rfl, rfl⟩
theorem drawsK (t : Bool) {prog : Program} {w : World} {A : Around} (hh : A.handled = none) (it l : Addr) (hne : l ≠ it) (items : Array Value) :
    Draws prog w A it [it, l] items.size (fun i v => items[i]? = some v) (fun i h => ItrK t h it l i ∧ ObK t h l items) := by
  cases t with
  | true => exact Draws.tuple hh it l hne items
  | false => exact Draws.list hh it l hne items
/-- .. past the end -/
theorem drawsEnd (t : Bool) {prog : Program} {w : World} {A : Around} (hh : A.handled = none) (it l : Addr) (items : Array Value) (i : Nat) (hx : items[i]? = none) :
    Draws prog w A it [it, l] i (fun _ _ => False) (fun j h => ItrK t h it l j ∧ ObK t h l items ∧ j = i) where
  live := fun j h st => let ⟨o, e, _⟩ := st.1.obj; ⟨o, e⟩
  frame := fun j h h' st k => ⟨st.1.at fun o q => k it (by simp) o q, by
    have x := st.2.1
    cases t with
    | true => obtain ⟨o, e, r⟩ := x; exact ⟨o, k l (by simp) o e, r⟩
    | false => obtain ⟨o, e, r⟩ := x; exact ⟨o, k l (by simp) o e, r⟩, st.2.2⟩
  item := fun j s Q E hj st => absurd st.2.2 (Nat.ne_of_lt hj)
  done := fun s Q E st hE => by
    obtain ⟨h1, h2, _⟩ := st
    cases t with
    | true => exact wpAny_nextOf_tuple_end hh h1 h2 hx hE
    | false => exact wpAny_nextOf_list_end hh h1 h2 hx hE
/-- at each place, within or past the end -/
theorem drawsAt (t : Bool) {prog : Program} {w : World} {A : Around} (hh : A.handled = none) (it l : Addr) (hne : l ≠ it) (items : Array Value) (i : Nat) {h : Heap} (h1 : ItrK t h it l i) (h2 : ObK t h l items) :
    ∃ (n : Nat) (P : Nat → Value → Prop) (St : Nat → Heap → Prop), Draws prog w A it [it, l] n P St ∧ St i h ∧ i ≤ n ∧ (items[i]? = none → i = n) := by
  cases hx : items[i]? with
  | none => exact ⟨_, _, _, drawsEnd t hh it l items i hx, ⟨h1, h2, rfl⟩, Nat.le_refl _, fun _ => rfl⟩
  | some v => exact ⟨_, _, _, drawsK t hh it l hne items, ⟨h1, h2⟩, Nat.le_of_lt (Array.getElem?_eq_some_iff.mp hx).1, fun z => nomatch z⟩
theorem beginsK (t : Bool) (l : Addr) (items : Array Value) : Begins (.ref l) (itObj t l) fun h => ObK t h l items := by
  cases t with
  | true => exact begins_tuple l items
  | false => exact begins_list l items
section
variable {X : Cx} {pins : List (Addr × Obj)} {σ : L2.St} {H : Hp} {s : Shared}
theorem sqk_obj {t : Bool} (I : L2.Inv X pins σ H s) {a : Addr} {xs : List V} (q : SqK t X.K H a xs) : ∃ its : List Value, Vals xs its ∧ ObK t s.heap a its.toArray ∧ a < s.heap.objs.size ∧ xs.length ≤ sizeLine := by
  cases t with
  | true =>
    obtain ⟨its, r, pl, hz⟩ := I.tuple q
    obtain ⟨o, ho, _⟩ := id pl
    exact ⟨its, r, pl, Heap.lt_size ho, hz⟩
  | false =>
    obtain ⟨its, r, pl, hz⟩ := I.list q
    exact ⟨its, r, pl.isList, pl.lt, hz⟩
theorem sqk_inj {t : Bool} (I : L2.Inv X pins σ H s) {a : Addr} {xs ys : List V} (q : SqK t X.K H a xs) (r : SqK t X.K H a ys) : xs = ys := by
  cases t with
  | true => exact I.tuple_inj q r
  | false => exact I.list_inj q r
end
/-! ### enumerate -/
def ItE (t : Bool) (K : Kf) (a : Addr) : It :=
  ⟨fun i H => ∃ (xs : List V) (x : V), SqK t K H a xs ∧ xs[i]? = some x, fun i H v H' => ∃ T x, v = .ref T ∧ H T = none ∧ H' = upd H T (.tup [.int (i : Nat), x]) ∧ ∀ xs, SqK t K H a xs → xs[i]? = some x, fun i H => ∃ xs : List V, SqK t K H a xs ∧ xs.length ≤ i⟩
theorem turn_en (t : Bool) {P : Program} {w : World} {K : Kf} {elts : List Expr} {kk : Nat} {tpos : Pos} (a e it : Addr) (d1 : e ≠ it) (d2 : e ≠ a) (d3 : a ≠ it) :
    Turn P w K (.Tuple elts kk tpos) (ItE t K a) [e, it] e (fun i h => (∃ old, IsEnum h e it ((i : Nat) : Int) old) ∧ ItrK t h it a i) where
  mem := by simp
  obj := fun i h st b hb => by
    obtain ⟨⟨old, he⟩, hi⟩ := st
    have e' : b = e ∨ b = it := by simpa using hb
    rcases e' with z | z
    · rw [z]; exact ⟨_, he, fun v q => nomatch q⟩
    · rw [z]; exact hi.obj
  keep := fun i h h' st k => let ⟨⟨old, he⟩, hi⟩ := st; ⟨⟨old, k e (by simp) _ he⟩, hi.at fun o q => k it (by simp) o q⟩
  item := by
    intro X hP hw hK hc i pins s σ H E I hf st hg
    subst hP hw hK
    obtain ⟨⟨old, he⟩, hit⟩ := st
    obtain ⟨xs, x, hq, hx⟩ := hg
    obtain ⟨its, rv, p, hal, hz⟩ := sqk_obj I hq
    obtain ⟨u, hu, ru⟩ := rv.get hx
    have lt : ∀ b, b ∈ [e, it] → b < s.heap.objs.size := fun b hb => by
      have e' : b = e ∨ b = it := by simpa using hb
      rcases e' with z | z
      · rw [z]; exact Heap.lt_size he
      · rw [z]; obtain ⟨_, q, _⟩ := hit.obj; exact Heap.lt_size q
    have W := WalksT.enumerateD (drawsK t (prog := X.prog) (w := X.w) (A := X.A.in1) (I.ok.hd hc) it a d3 its.toArray) e d1 (by simp [d1, d2]) (by simp)
    refine W.item i s _ _ (by rw [List.size_toArray]; exact (List.getElem?_eq_some_iff.mp hu).1) ⟨⟨old, he⟩, hit, p⟩ fun T vals h' tk hp hT hI hm k => ?_
    obtain ⟨tt, y, hy, rfl⟩ := hp
    have ey : y = u := by
      rw [List.getElem?_toArray] at hy
      have hy : its[i]? = some y := hy
      rw [hu] at hy; cases hy; rfl
    subst ey
    have hTw := W.apart i T h' hm
    refine ⟨_, rfl, W.go elts kk tpos i T _ _ _ hm fun h'' st' k' => ?_⟩
    obtain ⟨oT, hT1, hT2, nT, hT3⟩ := hI
    have new : ObjOk X.prog X.w (upd H T (.tup [.int (i : Nat), x])) h'' T (.tup [.int (i : Nat), x]) :=
      ⟨by show 2 ≤ sizeLine; decide, [.int i tt, y], .cons ⟨_, rfl⟩ (.cons ru .nil), ⟨oT, k' _ _ hTw hT1, hT2, nT, hT3⟩⟩
    have I1 : L2.Inv X pins σ (upd H T (.tup [.int (i : Nat), x])) { s with heap := h'', toks := tk } := I.turnedNew (ch := [e, it]) (fun b ob hb q => k' b ob hb (k b ob hb q)) hf hT new
    refine ⟨.ref T, _, I1, rfl, ⟨T, x, rfl, I.hok.fresh hT, rfl, fun ys hy => by rw [sqk_inj I hy hq]; exact hx⟩, ⟨?_, st'.2.1⟩, fun b hb => ?_⟩
    · obtain ⟨old', he'⟩ := st'.1
      exact ⟨old', by simpa using he'⟩
    · rw [upd_ne (Nat.ne_of_lt (Nat.lt_of_lt_of_le (lt b hb) hT))]
      exact (hf b hb).1
  done := by
    intro X hP hw hK hc i pins s σ H E I hf st hg
    subst hP hw hK
    obtain ⟨⟨old, he⟩, hit⟩ := st
    obtain ⟨xs, hq, hx⟩ := hg
    obtain ⟨its, rv, p, hal, hz⟩ := sqk_obj I hq
    obtain ⟨f0, f1, f2, f3, f4, f5⟩ := hf it (by simp)
    have hl := rv.length
    have D := drawsEnd t (prog := X.prog) (w := X.w) (A := X.A.in1) (I.ok.hd hc) it a its.toArray i (by simp; omega)
    exact wpAny_pyNext_enum_endD D he ⟨hit, p, rfl⟩ fun h' eb => ⟨rfl, I.turned (t' := s.toks) (fun b o hb q => eb b o hb q) f0 f1 f3 f4 f5⟩
  self := fun A i s Q E st h => let ⟨⟨_, he⟩, _⟩ := st; wpAny_pyIter_enum he h
/-! ### zip -/
def ItZ (t u : Bool) (K : Kf) (a b : Addr) : It :=
  ⟨fun i H => ∃ (xs ys : List V) (x y : V), SqK t K H a xs ∧ SqK u K H b ys ∧ xs[i]? = some x ∧ ys[i]? = some y,
    fun i H v H' => ∃ T x y, v = .ref T ∧ H T = none ∧ H' = upd H T (.tup [x, y]) ∧ (∀ xs, SqK t K H a xs → xs[i]? = some x) ∧ ∀ ys, SqK u K H b ys → ys[i]? = some y,
    fun i H => ∃ xs ys : List V, SqK t K H a xs ∧ SqK u K H b ys ∧ (xs.length ≤ i ∨ ys.length ≤ i)⟩
theorem turn_zp (t u : Bool) {P : Program} {w : World} {K : Kf} {elts : List Expr} {kk : Nat} {tpos : Pos} {a b z TI TO i1 i2 : Addr} (D : ZipSep2 z TI TO i1 i2 [i1, a] [i2, b]) (da : a ≠ i1) (db : b ≠ i2) :
    Turn P w K (.Tuple elts kk tpos) (ItZ t u K a b) [z, TI, TO, i1, i2] z (fun i h => IsZip h z TI TO .none ∧ IsTupOf2 h TI (.ref i1) (.ref i2) ∧ (∃ x y, IsTupOf2 h TO x y) ∧ ItrK t h i1 a i ∧ ItrK u h i2 b i) where
  mem := by simp
  obj := fun i h st c hc => by
    obtain ⟨hz, hTI, ⟨x, y, hTO⟩, h1, h2⟩ := st
    have e' : c = z ∨ c = TI ∨ c = TO ∨ c = i1 ∨ c = i2 := by simpa using hc
    rcases e' with q | q | q | q | q
    · rw [q]; exact ⟨_, hz, fun v q => nomatch q⟩
    · rw [q]; exact ⟨_, hTI, fun v q => nomatch q⟩
    · rw [q]; exact ⟨_, hTO, fun v q => nomatch q⟩
    · rw [q]; exact h1.obj
    · rw [q]; exact h2.obj
  keep := fun i h h' st k => by
    obtain ⟨hz, hTI, ⟨x, y, hTO⟩, h1, h2⟩ := st
    exact ⟨k z (by simp) _ hz, k TI (by simp) _ hTI, ⟨x, y, k TO (by simp) _ hTO⟩, h1.at fun o q => k i1 (by simp) o q, h2.at fun o q => k i2 (by simp) o q⟩
  item := by
    intro X hP hw hK hc i pins s σ H E I hf st hg
    subst hP hw hK
    obtain ⟨hz, hTI, ⟨x0, y0, hTO⟩, h1, h2⟩ := st
    obtain ⟨xs, ys, x, y, hqx, hqy, hx, hy⟩ := hg
    obtain ⟨its, rv, p, _, _⟩ := sqk_obj I hqx
    obtain ⟨its2, rv2, p2, _, _⟩ := sqk_obj I hqy
    obtain ⟨v1, hu, ru⟩ := rv.get hx
    obtain ⟨v2, hu2, ru2⟩ := rv2.get hy
    have lt : ∀ c, c ∈ [z, TI, TO, i1, i2] → c < s.heap.objs.size := fun c hcm => by
      have e' : c = z ∨ c = TI ∨ c = TO ∨ c = i1 ∨ c = i2 := by simpa using hcm
      rcases e' with q | q | q | q | q
      · rw [q]; exact Heap.lt_size hz
      · rw [q]; exact Heap.lt_size hTI
      · rw [q]; exact Heap.lt_size hTO
      · rw [q]; obtain ⟨_, e1, _⟩ := h1.obj; exact Heap.lt_size e1
      · rw [q]; obtain ⟨_, e2, _⟩ := h2.obj; exact Heap.lt_size e2
    have W := WalksT.zipD2 D (drawsK t (prog := X.prog) (w := X.w) (A := X.A.in1) (I.ok.hd hc) i1 a da its.toArray) (drawsK u (prog := X.prog) (w := X.w) (A := X.A.in1) (I.ok.hd hc) i2 b db its2.toArray)
    have l1 := (List.getElem?_eq_some_iff.mp hu).1
    have l2 := (List.getElem?_eq_some_iff.mp hu2).1
    refine W.item i s _ _ (by rw [List.size_toArray, List.size_toArray]; omega) ⟨hz, hTI, ⟨x0, y0, hTO⟩, ⟨h1, p⟩, ⟨h2, p2⟩⟩ fun T vals h' tk hp hT hI hm k => ?_
    obtain ⟨y1, y2, e1, e2, rfl⟩ := hp
    have ey : y1 = v1 := by
      rw [List.getElem?_toArray] at e1
      have e1 : its[i]? = some y1 := e1
      rw [hu] at e1; cases e1; rfl
    have ey2 : y2 = v2 := by
      rw [List.getElem?_toArray] at e2
      have e2 : its2[i]? = some y2 := e2
      rw [hu2] at e2; cases e2; rfl
    subst ey ey2
    have hTw := W.apart i T h' hm
    refine ⟨_, rfl, W.go elts kk tpos i T _ _ _ hm fun h'' st' k' => ?_⟩
    obtain ⟨oT, hT1, hT2, nT, hT3⟩ := hI
    have new : ObjOk X.prog X.w (upd H T (.tup [x, y])) h'' T (.tup [x, y]) :=
      ⟨by show 2 ≤ sizeLine; decide, [y1, y2], .cons ru (.cons ru2 .nil), ⟨oT, k' _ _ hTw hT1, hT2, nT, hT3⟩⟩
    have wr : ∀ c, c ∉ [z, TI, TO, i1, i2] → c ∉ [z, TO, i1, i2] := fun c hcm z => hcm (by
      simp only [List.mem_cons] at z ⊢
      rcases z with z | z | z | z | z
      · exact .inl z
      · exact .inr (.inr (.inl z))
      · exact .inr (.inr (.inr (.inl z)))
      · exact .inr (.inr (.inr (.inr (.inl z))))
      · cases z)
    have I1 : L2.Inv X pins σ (upd H T (.tup [x, y])) { s with heap := h'', toks := tk } := I.turnedNew (ch := [z, TI, TO, i1, i2]) (fun c ob hb q => k' c ob (wr c hb) (k c ob (wr c hb) q)) hf hT new
    refine ⟨.ref T, _, I1, rfl, ⟨T, x, y, rfl, I.hok.fresh hT, rfl, fun l hl => by rw [sqk_inj I hl hqx]; exact hx, fun l hl => by rw [sqk_inj I hl hqy]; exact hy⟩, ⟨st'.1, st'.2.1, st'.2.2.1, st'.2.2.2.1.1, st'.2.2.2.2.1⟩, fun c hcm => ?_⟩
    rw [upd_ne (Nat.ne_of_lt (Nat.lt_of_lt_of_le (lt c hcm) hT))]
    exact (hf c hcm).1
  done := by
    intro X hP hw hK hc i pins s σ H E I hf st hg
    subst hP hw hK
    obtain ⟨hz, hTI, ⟨x0, y0, hTO⟩, h1, h2⟩ := st
    obtain ⟨xs, ys, hqx, hqy, hend⟩ := hg
    obtain ⟨its, rv, p, _, _⟩ := sqk_obj I hqx
    obtain ⟨its2, rv2, p2, _, _⟩ := sqk_obj I hqy
    have l1 := rv.length
    have l2 := rv2.length
    obtain ⟨n1, P1, S1, D1, s1, le1, en1⟩ := drawsAt t (prog := X.prog) (w := X.w) (A := X.A.in1) (I.ok.hd hc) i1 a da its.toArray i h1 p
    obtain ⟨n2, P2, S2, D2, s2, le2, en2⟩ := drawsAt u (prog := X.prog) (w := X.w) (A := X.A.in1) (I.ok.hd hc) i2 b db its2.toArray i h2 p2
    have he : i = n1 ∨ i = n2 := by
      rcases hend with q | q
      · exact .inl (en1 (by simp; omega))
      · exact .inr (en2 (by simp; omega))
    exact wpAny_pyNext_zipD2_end D D1 D2 hz hTI hTO s1 s2 le1 le2 he fun h' tk hk => ⟨rfl, I.turnedL (t' := tk) (ch := [z, TI, TO, i1, i2]) (fun c o hb q =>
      hk c o (fun q' => hb (by simp [q'])) (fun q' => hb (by simp [q'])) (fun q' => hb (by simp [q'])) (fun q' => hb (by simp [q'])) q) hf⟩
  self := fun A i s Q E st h => wpAny_pyIter_zip st.1 h
end MP
end

section
set_option Elab.async false
set_option linter.all false
set_option maxRecDepth 100000
set_option maxHeartbeats 4000000
namespace MP
open PySem PySem.Spec L2 PyProof.Rows
open PySem.Sem (wp)
/-! ### cursors and iterators -/
def SC (K : Kf) (t : Bool) (a : Addr) (i : Nat) (c : Cur) (F : Hp) (β : List Addr) : Prop := match c with
  | .st ds => ∃ all vs, VRs K F β all vs ∧ ds = all.drop i ∧ match t with
    | true => RT K F β a vs
    | false => RL K F β a vs
  | .lv n j => t = false ∧ β[n]? = some a ∧ j = i
  | _ => False
def ItP (t : Bool) (K : Kf) (a : Addr) : It := match t with
  | true => Itt K a
  | false => Itl K a
inductive CI (K : Kf) : It → Nat → Cur → Hp → List Addr → Prop where
  | seq (t : Bool) (a : Addr) {i : Nat} {c : Cur} {F : Hp} {β : List Addr} (h : SC K t a i c F β) : CI K (ItP t K a) i c F β
  | rg (lo hi : Int) {i : Nat} {F : Hp} {β : List Addr} : CI K (Itr lo (hi - lo).toNat) i (.st ((rng lo hi).drop i)) F β
  | en (t : Bool) (a : Addr) {i : Nat} {c : Cur} {F : Hp} {β : List Addr} (h : SC K t a i c F β) : CI K (ItE t K a) i (.en i c) F β
  | zp (t u : Bool) (a b : Addr) {i : Nat} {c d : Cur} {F : Hp} {β : List Addr} (h : SC K t a i c F β) (g : SC K u b i d F β) : CI K (ItZ t u K a b) i (.zp c d) F β
section
variable {K : Kf} {F F' H H' : Hp} {β β' : List Addr} {h : Hh} {t : Bool} {a : Addr} {i : Nat} {c : Cur} {J : It}
theorem SC.ext (e : Ext F β F' β') (s : SC K t a i c F β) : SC K t a i c F' β' := by
  cases c with
  | st ds =>
    obtain ⟨all, vs, w, d, r⟩ := s
    refine ⟨all, vs, VRs.ext e _ _ w, d, ?_⟩
    cases t with
    | true => exact RT.ext e r
    | false => exact RL.ext e r
  | lv n j => exact ⟨s.1, e.pre _ _ s.2.1, s.2.2⟩
  | en _ _ => exact s
  | zp _ _ => exact s
theorem CI.ext (e : Ext F β F' β') (s : CI K J i c F β) : CI K J i c F' β' := by
  cases s with
  | seq t a h => exact .seq t a (h.ext e)
  | rg lo hi => exact .rg lo hi
  | en t a h => exact .en t a (h.ext e)
  | zp t u a b h g => exact .zp t u a b (h.ext e) (g.ext e)
theorem SC.now (sm : Same F H) (gd : Good K F β h) (s : SC K t a i c F β) : match next c h with
    | .stop => ∃ xs, SqK t K H a xs ∧ xs.length ≤ i
    | .it d c' => (∃ xs v, SqK t K H a xs ∧ xs[i]? = some v ∧ VR K F β d v) ∧ SC K t a (i + 1) c' F β
    | .stuck => True := by
  cases c with
  | st ds =>
    obtain ⟨all, vs, w, e, r⟩ := s
    have q : SqK t K H a vs := by
      cases t with
      | true => exact RT.sq sm r
      | false => exact RL.sq sm r
    cases ds with
    | nil =>
      refine ⟨vs, q, ?_⟩
      have := congrArg List.length e
      rw [List.length_drop, List.length_nil] at this
      rw [w.len]; omega
    | cons d ds =>
      have hi : all[i]? = some d := by
        have := congrArg (·[0]?) e
        simp only [List.getElem?_cons_zero, List.getElem?_drop, Nat.add_zero] at this
        exact this.symm
      obtain ⟨v, hv, rv⟩ := w.get hi
      refine ⟨⟨vs, v, q, hv, rv⟩, all, vs, w, ?_, r⟩
      have := congrArg List.tail e
      rw [List.tail_cons, List.tail_drop] at this
      exact this
  | lv n j =>
    obtain ⟨rfl, hb, rfl⟩ := s
    unfold next
    cases hh : h[n]? with
    | none => exact trivial
    | some o =>
      cases o with
      | lst ds =>
        obtain ⟨vs, f, w, _⟩ := gd.at_ hb hh
        have q : SqK false K H a vs := .inl (.inl (sm _ _ f))
        cases hd : ds[j]? with
        | none =>
          simp only [hd]
          refine ⟨vs, q, ?_⟩
          rw [List.getElem?_eq_none_iff] at hd
          rw [w.len]; exact hd
        | some d =>
          simp only [hd]
          obtain ⟨v, hv, rv⟩ := w.get hd
          exact ⟨⟨vs, v, q, hv, rv⟩, rfl, hb, rfl⟩
      | dct _ _ _ => exact trivial
  | en _ _ => exact s.elim
  | zp _ _ => exact s.elim
/-- a turn -/
theorem fresh_out (sm : Same F H) (gd : Good K F β h) {T : Addr} (n : H T = none) : T ∉ β := fun z => by
  obtain ⟨_, vs', _, _, _, f, _⟩ := gd.mem z
  have := sm _ _ f
  rw [n] at this; cases this
theorem drop_one {α : Type} {l : List α} {i : Nat} {d : α} {ds : List α} (e : l.drop i = d :: ds) : l[i]? = some d ∧ ds = l.drop (i + 1) := by
  constructor
  · have := congrArg (·[0]?) e
    simpa using this
  · have := congrArg List.tail e
    rw [List.tail_cons, List.tail_drop] at this
    exact this.symm
theorem CI.now (sm : Same F H) (gd : Good K F β h) (s : CI K J i c F β) : match next c h with
    | .stop => J.stop i H
    | .it d c' => J.go i H ∧ ∀ x H', J.yld i H x H' → ∃ F', PStep F H F' H' ∧ VR K F' β d x ∧ CI K J (i + 1) c' F' β
    | .stuck => True := by
  cases s with
  | seq t a hs =>
    have z := hs.now sm gd
    revert z
    cases next c h with
    | stuck => exact fun _ => trivial
    | stop =>
      rintro ⟨xs, q, l⟩
      cases t with
      | true => exact ⟨xs, q, l⟩
      | false => exact ⟨xs, q, l⟩
    | it d c' =>
      rintro ⟨⟨xs, v, q, hv, rv⟩, s'⟩
      cases t with
      | true =>
        refine ⟨⟨xs, v, q, hv⟩, fun x H' y => ?_⟩
        obtain ⟨rfl, y⟩ := y
        have := y xs q
        rw [hv] at this; cases this
        exact ⟨F, .refl sm, rv, .seq true a s'⟩
      | false =>
        refine ⟨⟨xs, v, q, hv⟩, fun x H' y => ?_⟩
        obtain ⟨rfl, y⟩ := y
        have := y xs q
        rw [hv] at this; cases this
        exact ⟨F, .refl sm, rv, .seq false a s'⟩
  | rg lo hi =>
    cases hd : (rng lo hi).drop i with
    | nil =>
      show (hi - lo).toNat ≤ i
      have := congrArg List.length hd
      unfold rng at this
      rw [List.length_drop, List.length_map, List.length_range, List.length_nil] at this
      omega
    | cons d ds =>
      obtain ⟨e1, e2⟩ := drop_one hd
      unfold rng at e1
      rw [List.getElem?_map] at e1
      cases hr : (List.range (hi - lo).toNat)[i]? with
      | none => rw [hr] at e1; cases e1
      | some k =>
        rw [hr] at e1
        obtain ⟨hk, ek⟩ := List.getElem?_eq_some_iff.mp hr
        rw [List.getElem_range] at ek
        rw [List.length_range] at hk
        subst ek
        have e1 : d = .int (lo + (i : Nat)) := by simpa using e1.symm
        refine ⟨hk, fun x H' y => ?_⟩
        obtain ⟨rfl, rfl⟩ := y
        subst e1
        rw [e2]
        exact ⟨F, .refl sm, rfl, .rg lo hi⟩
  | en t a hs =>
    rename_i c
    have z := hs.now sm gd
    unfold next
    revert z
    cases next c h with
    | stuck => exact fun _ => trivial
    | stop => exact fun z => z
    | it d c' =>
      rintro ⟨⟨xs, v, q, hv, rv⟩, s'⟩
      refine ⟨⟨xs, v, q, hv⟩, fun x H' y => ?_⟩
      obtain ⟨T, y1, rfl, n, rfl, y2⟩ := y
      have := y2 xs q
      rw [hv] at this; cases this
      have ps := PStep.known (o := .tup [.int (i : Nat), v]) sm n
      exact ⟨_, ps, ⟨T, [.int (i : Nat), v], rfl, .inl ⟨fresh_out sm gd n, .inl upd_same⟩, ⟨_, _, rfl, rfl, ⟨_, _, rfl, VR.ext ps.extb _ _ rv, rfl⟩⟩⟩, .en t a (s'.ext ps.extb)⟩
  | zp t u a b hs gs =>
    rename_i c c2
    have z := hs.now sm gd
    have z2 := gs.now sm gd
    unfold next
    revert z z2
    cases next c h with
    | stuck => intro _ _; cases next c2 h <;> exact trivial
    | stop =>
      cases next c2 h with
      | stuck => exact fun _ _ => trivial
      | stop => rintro ⟨xs, q, l⟩ ⟨ys, q2, l2⟩; exact ⟨xs, ys, q, q2, .inl l⟩
      | it e c2' => rintro ⟨xs, q, l⟩ ⟨⟨ys, w, q2, hw, rw'⟩, s2⟩; exact ⟨xs, ys, q, q2, .inl l⟩
    | it d c' =>
      cases next c2 h with
      | stuck => exact fun _ _ => trivial
      | stop => rintro ⟨⟨xs, v, q, hv, rv⟩, s'⟩ ⟨ys, q2, l2⟩; exact ⟨xs, ys, q, q2, .inr l2⟩
      | it e c2' =>
        rintro ⟨⟨xs, v, q, hv, rv⟩, s'⟩ ⟨⟨ys, w, q2, hw, rw'⟩, s2⟩
        refine ⟨⟨xs, ys, v, w, q, q2, hv, hw⟩, fun x H' y => ?_⟩
        obtain ⟨T, y1, y2, rfl, n, rfl, k1, k2⟩ := y
        have := k1 xs q
        rw [hv] at this; cases this
        have := k2 ys q2
        rw [hw] at this; cases this
        have ps := PStep.known (o := .tup [v, w]) sm n
        exact ⟨_, ps, ⟨T, [v, w], rfl, .inl ⟨fresh_out sm gd n, .inl upd_same⟩, ⟨_, _, rfl, VR.ext ps.extb _ _ rv, ⟨_, _, rfl, VR.ext ps.extb _ _ rw', rfl⟩⟩⟩, .zp t u a b (s'.ext ps.extb) (s2.ext ps.extb)⟩
/-! ### what a for goes over -/
def PostI (K : Kf) (F : Hp) (β : List Addr) (H : Hp) (o : Out Cur) (R : It → Hp → Prop) : Prop := match o with
  | .ok c h' => ∀ J F' β' H', Same F' H' → Step F β H F' β' H' → Good K F' β' h' → CI K J 0 c F' β' → R J H'
  | _ => False
def tI (K : Kf) (d : DenI) : TI := fun σ H R => ∃ F β h en, Same F H ∧ Good K F β h ∧ SimE K F β en σ ∧ PostI K F β H (d en h) R
theorem PostI.shift {F1 H1 : Hp} {β1 : List Addr} {o : Out Cur} {R : It → Hp → Prop} (sm : Same F H) (s : Step F β H F1 β1 H1) (p : PostI K F β H o R) : PostI K F1 β1 H1 o R := by
  cases o with
  | ok c h' => exact fun J F' β' H' sm' s' g' ci => p J F' β' H' sm' (Step.trans sm s s') g' ci
  | er e h => exact p
  | no => exact p
theorem bindI {en : En} {σ : L2.St} {a : Den} {f : R → Hh → Out Cur} {Q : It → Hp → Prop} {k : V → Hp → Prop} (sm : Same F H) (gd : Good K F β h) (se : SimE K F β en σ) (post : PostI K F β H ((a en h).bind f) Q)
    (hk : ∀ r v F1 β1 H1 h1, Same F1 H1 → Step F β H F1 β1 H1 → Good K F1 β1 h1 → SimE K F1 β1 en σ → RR K F1 β1 H H1 r v → PostI K F1 β1 H1 (f r h1) Q → k v H1) : tD K a σ H k :=
  bind1 (P := fun F β H o => PostI K F β H o Q) sm gd se post (fun z => z) (fun _ _ z => z) (fun _ _ _ _ s _ p => p.shift sm s) hk
/-- a sequence as a cursor; what is new becomes known -/
theorem cur_of {H₀ F0 : Hp} {β0 : List Addr} (sm0 : Same F0 H₀) (st : Step F0 β0 H₀ F β H) (sm : Same F H) (gd : Good K F β h) {r : R} {v : V} {c : Cur} (rr : RR K F β H₀ H r v) (e : curOf h r = some c) :
    ∃ t a F', v = .ref a ∧ (∃ xs, SqK t K H a xs) ∧ Same F F' ∧ Same F' H ∧ Step F0 β0 H₀ F' β H ∧ Good K F' β h ∧ SC K t a 0 c F' β ∧ ∀ b, F b = none → b ∉ flA [r] [v] → F' b = none := by
  cases r with
  | fl ds =>
    cases (show some (Cur.st ds) = some c from e)
    obtain ⟨a, vs, rfl, n, f, q, w⟩ := rr
    obtain ⟨k1, k2, k3, na, x⟩ := know sm0 st sm gd n f q
    refine ⟨false, a, _, rfl, ⟨vs, .inl (.inl q)⟩, k1, k2, k3, gd.more k1, ⟨ds, vs, VRs.ext x _ _ w, rfl, na, .inl upd_same⟩, fun b z m => ?_⟩
    rw [upd_ne (fun e => m (by rw [e]; exact List.mem_cons_self))]
    exact z
  | d y =>
    cases y with
    | lst ds =>
      cases (show some (Cur.st ds) = some c from e)
      obtain ⟨a, vs, rfl, q, w⟩ := rr
      exact ⟨false, a, F, rfl, ⟨vs, q.sq sm⟩, Same.refl _, sm, st, gd, ⟨ds, vs, w, rfl, q⟩, fun _ z _ => z⟩
    | tup ds =>
      cases (show some (Cur.st ds) = some c from e)
      obtain ⟨a, vs, rfl, q, w⟩ := rr
      exact ⟨true, a, F, rfl, ⟨vs, q.sq sm⟩, Same.refl _, sm, st, gd, ⟨ds, vs, w, rfl, q⟩, fun _ z _ => z⟩
    | xt ds =>
      cases (show some (Cur.st ds) = some c from e)
      obtain ⟨a, vs, rfl, q, w⟩ := VR.xt_tup rr
      exact ⟨true, a, F, rfl, ⟨vs, q.sq sm⟩, Same.refl _, sm, st, gd, ⟨ds, vs, w, rfl, q⟩, fun _ z _ => z⟩
    | ref n =>
      have e : (match h[n]? with
        | some (.lst _) => some (Cur.lv n 0)
        | _ => none) = some c := e
      split at e
      · rename_i l hl
        cases e
        obtain ⟨a, q, rfl⟩ := rr
        obtain ⟨vs, f, w, _⟩ := gd.at_ q hl
        exact ⟨false, a, F, rfl, ⟨vs, .inl (.inl (sm _ _ f))⟩, Same.refl _, sm, st, gd, ⟨rfl, q, rfl⟩, fun _ z _ => z⟩
      · cases e
    | _ => exact nomatch e
end
section
variable {X : Cx} {tg e e2 : Expr} {d d2 : Den} {p pos tpos : Pos} {elts : List Expr} {kk : Nat}
theorem fp_of {pins : List (Addr × Obj)} {s : Shared} {σ : L2.St} {H : Hp} (I : L2.Inv X pins σ H s) {b : Addr} (h : s.heap.objs.size ≤ b) : FpOk X pins H b := I.fpOk h (I.hok.fresh h)
theorem pie_seq {pins : List (Addr × Obj)} {s : Shared} {σ : L2.St} {H : Hp} {R : It → Hp → Prop} {t : Bool} {a : Addr} {xs : List V} (I : L2.Inv X pins σ H s) (hq : SqK t X.K H a xs) (q : R (ItP t X.K a) H) : wpAny (model X.prog X.w) X.A (pyIter (.ref a)) (PIE X pins σ tg R) X.xe s := by
  obtain ⟨its, rv, p, hal, hz⟩ := sqk_obj I hq
  refine (beginsK t a its.toArray).iter _ _ _ _ _ _ p ?_
  have I2 : L2.Inv X pins σ H { s with heap := s.heap.push (itObj t a) } := I.kept (t' := s.toks) fun b o z => Heap.get?_push_of_some _ z
  have fr : ∀ b ∈ [s.heap.objs.size], FpOk X pins H b := fun b hb => by
    rw [List.mem_singleton] at hb
    exact fp_of I (Nat.le_of_eq hb.symm)
  have at0 : (s.heap.push (itObj t a)).get? s.heap.objs.size = some (itObj t a) := Heap.get?_push_size _ (by cases t <;> rfl)
  cases t with
  | true => exact ⟨s.heap.objs.size, [s.heap.objs.size], _, _, H, rfl, I2, turn_tuple a _, ⟨_, at0, rfl, rfl⟩, fr, q⟩
  | false => exact ⟨s.heap.objs.size, [s.heap.objs.size], _, _, H, rfl, I2, turn_list a _, ⟨_, at0, rfl, rfl⟩, fr, q⟩
theorem pi_e (he : PE X e (tD X.K d)) : PI X tg e (tI X.K (kIe d)) := by
  refine ⟨fun pins s σ H R I ⟨F, β, h, en, sm, gd, se, post⟩ => ?_⟩
  have hb : tD X.K d σ H (fun v H1 => ∃ t a, v = .ref a ∧ (∃ xs, SqK t X.K H1 a xs) ∧ R (ItP t X.K a) H1) := by
    refine ⟨F, β, h, en, sm, gd, se, ?_⟩
    unfold kIe at post
    cases hd : d en h with
    | er e h => rw [hd] at post; exact post
    | no => rw [hd] at post; exact post
    | ok r h1 =>
      rw [hd] at post
      intro v F1 β1 H1 sm1 st1 gd1 rr1
      have post : PostI X.K F β H (ofO (curOf h1 r) h1) R := post
      unfold ofO at post
      split at post
      · rename_i c ec
        obtain ⟨t, a, F2, ev, q, k1, k2, k3, k4, k5, _⟩ := cur_of sm st1 sm1 gd1 rr1 ec
        exact ⟨t, a, ev, q, post _ F2 β1 H1 k2 k3 k4 (.seq t a k5)⟩
      · exact post.elim
  refine thn (he.run pins s σ H _ I hb) fun v s1 ⟨x, H1, I1, r1, t, a, ex, ⟨xs, hq⟩, q⟩ => ?_
  subst ex
  cases r1
  exact pie_seq I1 hq q
theorem pi_rg1 {x : Str} (hx : x = "range") (hg : Gl X x) (hm : X.mg x = none) (he : PE X e (tD X.K d)) (hs : isStar e = false) : PI X tg (.Call (.Name x p) [e] [] pos) (tI X.K (kRg1 d)) := by
  subst hx
  refine PI_weak (pi_range1 hg hm (pa_cons he pa_nil (star_cons _ _ _ hs)) (star_cons _ _ _ hs)) fun σ H R ⟨F, β, h, en, sm, gd, se, post⟩ => ?_
  refine bindI sm gd se post fun r v F1 β1 H1 h1 sm1 st1 gd1 se1 rr1 post1 => ?_
  unfold rg1R at post1
  split at post1
  case h_2 => exact post1.elim
  rename_i j
  split at post1
  case isFalse => exact post1.elim
  rename_i hj
  cases (show v = .int j from rr1)
  refine ⟨j, rfl, hj.1, hj.2, post1 _ F1 β1 H1 sm1 .refl gd1 ?_⟩
  have z := CI.rg (K := X.K) 0 j (i := 0) (F := F1) (β := β1)
  rw [List.drop_zero, Int.sub_zero] at z
  exact z
theorem pi_rg2 {x : Str} (hx : x = "range") (hg : Gl X x) (hm : X.mg x = none) (he : PE X e (tD X.K d)) (he2 : PE X e2 (tD X.K d2)) (hs : isStar e = false) (hs2 : isStar e2 = false) : PI X tg (.Call (.Name x p) [e, e2] [] pos) (tI X.K (kRg2 d d2)) := by
  subst hx
  refine PI_weak (pi_range2 hg hm (pa_cons he (pa_cons he2 pa_nil (star_cons _ _ _ hs2)) (star_cons _ _ _ hs)) (by rw [star_cons _ _ _ hs, star_cons _ _ _ hs2]; rfl) (star_cons _ _ _ hs2)) fun σ H R ⟨F, β, h, en, sm, gd, se, post⟩ => ?_
  refine bindI sm gd se post fun r v F1 β1 H1 h1 sm1 st1 gd1 se1 rr1 post1 => ?_
  refine bindI sm1 gd1 se1 post1 fun r2 v2 F2 β2 H2 h2 sm2 st2 gd2 se2 rr2 post2 => ?_
  unfold rg2R at post2
  split at post2
  case h_2 => exact post2.elim
  rename_i i j
  split at post2
  case isFalse => exact post2.elim
  rename_i hj
  cases (show v = .int i from rr1)
  cases (show v2 = .int j from rr2)
  refine ⟨i, j, rfl, hj, post2 _ F2 β2 H2 sm2 .refl gd2 ?_⟩
  have z := CI.rg (K := X.K) i j (i := 0) (F := F2) (β := β2)
  rw [List.drop_zero] at z
  exact z
/-! enumerate(v): its two new cells -/
theorem meets_enumerate_new1 {v : Value} {o : Obj} {H : Heap → Prop} (B : Begins v o H) :
    Meets (Builtin.«enumerate.__new__» ⟨[.type "enumerate", v], []⟩) (fun _ R s => H s.heap ∧
      R (.ok (.ret (.ref (s.heap.push o).objs.size))) { s with heap := (s.heap.push o).push { cls := .type "enumerate", data := .fields #[.none, .bool false, .ref s.heap.objs.size, rawInt 0, .none, .none] } }) :=
  .of_wp fun prog w A R s h => by
    obtain ⟨hp, g, dr, tk, os⟩ := s
    obtain ⟨h1, h⟩ := h
    have sub := sub_enumerate
    have q1 : ∀ {A' : Around} {E : Value → Shared → Prop} {Q : Value → Shared → Prop}, Q (.ref hp.objs.size) ⟨hp.push o, g, dr, tk, os⟩ → wpAny (model prog w) A' (pyIter v) Q E ⟨hp, g, dr, tk, os⟩ :=
      fun q => B.iter prog w _ _ ⟨hp, g, dr, tk, os⟩ _ h1 q
    wp_walk using q1
    refine wpAny_stack_any fun st => wpAny_pure ?_
    split
    · rename_i c _ _ _ _ _
      cases (c == Value.type "enumerate")
      · wp_walk using q1
        exact ⟨_, rfl, h⟩
      · wp_walk using q1
        exact ⟨_, rfl, h⟩
    · wp_walk using q1
      exact ⟨_, rfl, h⟩
end
end MP
end

section
set_option Elab.async false
set_option linter.all false
set_option maxRecDepth 100000
set_option maxHeartbeats 4000000
namespace MP
open PySem PySem.Spec L2 PyProof.Rows
section
variable {prog : Program} {w : World} {A : Around} {E : Value → Shared → Prop} {s : Shared}
abbrev enO : Heap → Obj → Obj := fun h _ => { cls := .type "enumerate", data := .fields #[.none, .bool false, .ref h.objs.size, rawInt 0, .none, .none] }
theorem call_en1 {v : Value} {o : Obj} {H : Heap → Prop} {Q : Value → Shared → Prop} (B : Begins v o H) (h1 : H s.heap)
    (h : ∀ h', IsEnum h' (s.heap.objs.size + 1) s.heap.objs.size 0 .none → h'.get? s.heap.objs.size = some o → (∀ b o', s.heap.get? b = some o' → h'.get? b = some o') → Q (.ref (s.heap.objs.size + 1)) { s with heap := h' }) :
    wpAny (model prog w) A (call (.type "enumerate") [v]) Q E s := by
  refine callType_new F.called_enumerate (by decide) (F.typeCall_enumerate_1 _) (F.newCall_enumerate_1 _) (fun obj => F.args_object_init_2 obj _) F.entry_enumerate_new (meets_enumerate_new1 B) ⟨h1, ?_⟩
  have hz : (s.heap.push o).objs.size = s.heap.objs.size + 1 := Heap.size_push ..
  have he : IsEnum ((s.heap.push o).push (enO s.heap o)) (s.heap.objs.size + 1) s.heap.objs.size 0 .none := by
    have z := Heap.get?_push_size (s.heap.push o) (o := enO s.heap o) rfl
    rw [hz] at z
    exact z
  show _ ∧ _
  rw [hz]
  exact ⟨⟨_, he, rfl⟩, h _ he (Heap.get?_push_of_some _ (Heap.get?_push_size _ B.free)) fun b o' x => Heap.get?_push_of_some _ (Heap.get?_push_of_some _ x)⟩
end
section
variable {X : Cx} {tg e e2 : Expr} {d d2 : Den} {p pos tpos : Pos} {elts : List Expr} {kk : Nat} {x : Str}
theorem pi_en (hx : x = "enumerate") (hg : Gl X x) (hm : X.mg x = none) (he : PE X e (tD X.K d)) (hs : isStar e = false) : PI X (.Tuple elts kk tpos) (.Call (.Name x p) [e] [] pos) (tI X.K (kEn d)) := by
  subst hx
  refine ⟨fun pins s σ H R I ⟨F, β, h, en, sm, gd, se, post⟩ => ?_⟩
  have hb : tCons (tD X.K d) tNil σ H (fun vs H1 => ∃ t a, vs = [.ref a] ∧ (∃ xs, SqK t X.K H1 a xs) ∧ R (ItE t X.K a) H1) := by
    refine ⟨F, β, h, en, sm, gd, se, ?_⟩
    unfold kEn at post
    cases hd : d en h with
    | er e h => rw [hd] at post; exact post
    | no => rw [hd] at post; exact post
    | ok r h1 =>
      rw [hd] at post
      intro v F1 β1 H1 sm1 st1 gd1 rr1
      have post : PostI X.K F β H (enR r h1) R := post
      unfold enR at post
      split at post
      · rename_i c ec
        obtain ⟨t, a, F2, ev, q, k1, k2, k3, k4, k5, _⟩ := cur_of sm st1 sm1 gd1 rr1 ec
        exact ⟨t, a, by rw [ev], q, post _ F2 β1 H1 k2 k3 k4 (.en t a k5)⟩
      · exact post.elim
  have ha : PA X [e] (tCons (tD X.K d) tNil) := pa_cons he pa_nil (star_cons _ _ _ hs)
  refine Call_ (ld_blt I hg hm boot_enumerate (PyProof.Rows.callWith_type1 (thn (ha.run pos pins s σ H _ I hb) fun us s1 ⟨vs, H1, I1, r1, t, a, ex, ⟨xs, hq⟩, q⟩ => ?_) (star_cons _ _ _ hs) rfl))
  subst ex
  rw [Vals.ref1 r1]
  obtain ⟨its, rv, p', hal, hz⟩ := sqk_obj I1 hq
  refine call_en1 (beginsK t a its.toArray) p' fun h' hen hit hk => wpAny_pyIter_enum hen ?_
  have I2 : L2.Inv X pins σ H1 { s1 with heap := h' } := I1.kept (t' := s1.toks) hk
  refine ⟨s1.heap.objs.size + 1, [s1.heap.objs.size + 1, s1.heap.objs.size], _, _, H1, rfl, I2, turn_en t a (s1.heap.objs.size + 1) s1.heap.objs.size (Nat.succ_ne_self _) (Nat.ne_of_gt (Nat.lt_succ_of_lt hal)) (Nat.ne_of_lt hal), ⟨⟨.none, hen⟩, .new hit⟩, fun b hb => fp_of I1 ?_, q⟩
  have e' : b = s1.heap.objs.size + 1 ∨ b = s1.heap.objs.size := by simpa using hb
  rcases e' with z | z
  · rw [z]; exact Nat.le_add_right _ _
  · rw [z]; exact Nat.le_refl _
theorem pi_zp (hx : x = "zip") (hg : Gl X x) (hm : X.mg x = none) (he : PE X e (tD X.K d)) (he2 : PE X e2 (tD X.K d2)) (hs : isStar e = false) (hs2 : isStar e2 = false) : PI X (.Tuple elts kk tpos) (.Call (.Name x p) [e, e2] [] pos) (tI X.K (kZp d d2)) := by
  subst hx
  refine ⟨fun pins s σ H R I ⟨F, β, h, en, sm, gd, se, post⟩ => ?_⟩
  have hb : tCons (tD X.K d) (tCons (tD X.K d2) tNil) σ H (fun vs H1 => ∃ t u a b, vs = [.ref a, .ref b] ∧ (∃ xs, SqK t X.K H1 a xs) ∧ (∃ ys, SqK u X.K H1 b ys) ∧ R (ItZ t u X.K a b) H1) := by
    refine ⟨F, β, h, en, sm, gd, se, ?_⟩
    unfold kZp at post
    cases hd : d en h with
    | er e h => rw [hd] at post; exact post
    | no => rw [hd] at post; exact post
    | ok r h1 =>
    rw [hd] at post
    intro v F1 β1 H1 sm1 st1 gd1 rr1
    have post : PostI X.K F β H ((d2 en h1).bind fun s h => zpR r s h) R := post
    refine ⟨F1, β1, h1, en, sm1, gd1, se.ext st1.ext, ?_⟩
    cases hd2 : d2 en h1 with
    | er e h => rw [hd2] at post; exact post
    | no => rw [hd2] at post; exact post
    | ok r2 h2 =>
    rw [hd2] at post
    intro v2 F2 β2 H2 sm2 st2 gd2 rr2
    have post : PostI X.K F β H (zpR r r2 h2) R := post
    unfold zpR at post
    split at post
    case h_2 => exact post.elim
    rename_i c1 c2 ec1 ec2
    have st := Step.trans sm st1 st2
    have rrb := rr2.back sm st1 sm1
    obtain ⟨t, a, F3, ev, q, k1, k2, k3, k4, k5, k6⟩ := cur_of sm st sm2 gd2 (rr1.step st2) ec1
    have x3 : Ext F2 β2 F3 β2 := ⟨fun _ _ z => z, fun b o z m => ⟨k1 b o z, m⟩⟩
    have rrc : RR X.K F3 β2 H H2 r2 v2 := by
      cases r2 with
      | d y => exact VR.ext x3 y v2 rrb
      | fl l =>
        obtain ⟨b, ws, rfl, n, f, q2, w⟩ := rrb
        refine ⟨b, ws, rfl, n, k6 b f fun m => ?_, q2, VRs.ext x3 l ws w⟩
        cases r with
        | d y => exact nomatch m
        | fl l2 =>
          obtain ⟨b', ws', e', n', f', q', w'⟩ := rr1
          subst e'
          have eb : b = b' := by simpa [flA] using m
          subst eb
          obtain ⟨_, _, e2, n2, _⟩ := rr2
          cases e2
          rw [q'] at n2
          cases n2
    obtain ⟨u, b, F4, ev2, q2, j1, j2, j3, j4, j5, _⟩ := cur_of sm k3 k2 k4 rrc ec2
    have x4 : Ext F3 β2 F4 β2 := ⟨fun _ _ z => z, fun b o z m => ⟨j1 b o z, m⟩⟩
    exact ⟨t, u, a, b, by rw [ev, ev2], q, q2, post _ F4 β2 H2 j2 j3 j4 (.zp t u a b (k5.ext x4) j5)⟩
  have ha : PA X [e, e2] (tCons (tD X.K d) (tCons (tD X.K d2) tNil)) := pa_cons he (pa_cons he2 pa_nil (star_cons _ _ _ hs2)) (star_cons _ _ _ hs)
  refine Call_ (ld_blt I hg hm PyProof.Rows.boot_zip (PyProof.Rows.callWith_type1 (thn (ha.run pos pins s σ H _ I hb) fun us s1 ⟨vs, H1, I1, r1, t, u, a, b, ex, ⟨xs, hqx⟩, ⟨ys, hqy⟩, q⟩ => ?_) (star_cons _ _ _ hs) (star_back _ _ _ (by rw [List.all_cons, hs2]; rfl))))
  subst ex
  cases r1 with
  | cons r rr =>
  cases rr with
  | cons r' rr =>
  cases rr
  cases r
  cases r'
  obtain ⟨its, rv, p1, la, _⟩ := sqk_obj I1 hqx
  obtain ⟨its2, rv2, p2, lb, _⟩ := sqk_obj I1 hqy
  refine zip_begins2 (beginsK t a its.toArray) (beginsK u b its2.toArray) p1 p2 fun h' hz hTI hTO h1 h2 hsz hk => wpAny_pyIter_zip hz ?_
  have I2 : L2.Inv X pins σ H1 { s1 with heap := h' } := I1.kept (t' := s1.toks) hk
  have D := zip_sep2 (N := s1.heap.objs.size) (fp1 := [a]) (fp2 := [b]) (fun c hc => by rw [List.mem_singleton] at hc; rw [hc]; exact la) (fun c hc => by rw [List.mem_singleton] at hc; rw [hc]; exact lb)
  refine ⟨s1.heap.objs.size + 4, [s1.heap.objs.size + 4, s1.heap.objs.size + 2, s1.heap.objs.size + 3, s1.heap.objs.size, s1.heap.objs.size + 1], _, _, H1, rfl, I2, turn_zp t u D (Nat.ne_of_lt la) (Nat.ne_of_lt (Nat.lt_succ_of_lt lb)), ⟨hz, hTI, ⟨_, _, hTO⟩, .new h1, .new h2⟩, fun c hc => fp_of I1 ?_, q⟩
  simp only [List.mem_cons, List.not_mem_nil, or_false] at hc
  rcases hc with z | z | z | z | z
  · rw [z]; exact Nat.le_add_right _ _
  · rw [z]; exact Nat.le_add_right _ _
  · rw [z]; exact Nat.le_add_right _ _
  · rw [z]; exact Nat.le_refl _
  · rw [z]; exact Nat.le_add_right _ _
end
end MP
end

section
set_option Elab.async false
set_option linter.all false
set_option maxRecDepth 100000
set_option maxHeartbeats 4000000
namespace MP
open PySem PySem.Spec L2 PyProof.Rows
section
variable {prog : Program} {w : World} {A : Around} {E : Value → Shared → Prop} {s : Shared} {z TI TO i1 i2 T : Addr} {fp1 fp2 : List Addr} {n1 n2 i : Nat} {P1 P2 : Nat → Value → Prop} {St1 St2 : Nat → Heap → Prop} {f : Bool} {oT : Obj}
/-- the next pair of a zip whose last pair is still held -/
theorem zipH_item {Q : Value → Shared → Prop} (S : ZipSep2 z TI TO i1 i2 fp1 fp2) (D1 : Draws prog w A i1 fp1 n1 P1 St1) (D2 : Draws prog w A i2 fp2 n2 P2 St2)
    (hz : IsZipHeld s.heap z TI TO T f) (hT : s.heap.get? T = some oT) (hTI : IsTupOf2 s.heap TI (.ref i1) (.ref i2)) (st1 : St1 i s.heap) (st2 : St2 i s.heap) (l1 : i < n1) (l2 : i < n2)
    (hQ : ∀ x y h' tk, P1 i x → P2 i y → IsZipHeld h' z TI TO T true → St1 (i + 1) h' → St2 (i + 1) h' → IsTupOf2 h' s.heap.objs.size x y →
      (∀ c o, c ≠ z → c ≠ i1 → c ≠ i2 → s.heap.get? c = some o → h'.get? c = some o) → Q (.ref s.heap.objs.size) { s with heap := h', toks := tk }) :
    wpAny (model prog w) A (Builtin.«zip.__next__» ⟨[.ref z], []⟩) (fun fin s' => ∃ v, fin = .done (.ret v) ∧ Q v s') E s := by
  show wpAny _ _ (field (.ref z) 2 >>= _) _ _ _
  refine wpAny_bind (wpAny_field hz rfl (x := .bool false) rfl ?_)
  show wpAny _ _ (field (.ref z) 3 >>= _) _ _ _
  refine wpAny_bind (wpAny_field hz rfl (x := .ref TI) rfl (wpAny_bind (wpAny_seqItems hTI rfl ?_)))
  show wpAny _ _ (Builtin.SmallTypes.ownedTupleIsFree (.ref z) >>= _) _ _ _
  refine wpAny_bind (wpAny_tupleHeld_zip hz hT fun h₁ hz₁ hs₁ => ?_)
  simp only [Bool.false_eq_true, if_false]
  refine wpAny_bind ?_
  rw [← Array.forIn_toList]
  simp only [List.forIn_cons, List.forIn_nil]
  refine wpAny_bind (wpAny_bind (wpAny_holding ?_))
  show wpAny _ _ (Builtin.SmallTypes.nextOf (.ref i1) >>= _) _ _ _
  refine wpAny_bind (D1.item i _ _ _ l1 (D1.over st1 hs₁ S.zf1) fun x h₂ tk2 px st1' hs₂ => wpAny_pure (wpAny_pure ?_))
  refine wpAny_bind (wpAny_bind (wpAny_holding ?_))
  show wpAny _ _ (Builtin.SmallTypes.nextOf (.ref i2) >>= _) _ _ _
  refine wpAny_bind (D2.item i _ _ _ l2 (D2.over (D2.over st2 hs₁ S.zf2) hs₂ S.sep1_2) fun y h₃ tk3 py st2' hs₃ => wpAny_pure (wpAny_pure (wpAny_pure ?_)))
  show wpAny _ _ (newTuple [x, y] >>= _) _ _ _
  refine wpAny_bind (wpAny_newTuple ?_)
  have hsz : h₃.objs.size = s.heap.objs.size := by rw [hs₃.1, hs₂.1, hs₁.1]
  have kp : ∀ c o, c ≠ z → c ≠ i1 → c ≠ i2 → s.heap.get? c = some o → h₃.get? c = some o := fun c o c1 c2 c3 e => hs₃.extBut _ _ c3 (hs₂.extBut _ _ c2 (hs₁.extBut _ _ c1 e))
  have hz₃ : IsZipHeld h₃ z TI TO T true := hs₃.extBut _ _ S.zi2 (hs₂.extBut _ _ S.zi1 hz₁)
  have st1₃ := D1.over st1' hs₃ S.sep2_1
  have up : ∀ c o, h₃.get? c = some o → (h₃.push { cls := .type "tuple", data := .seq #[x, y] }).get? c = some o := fun c o e => Heap.get?_push_of_some _ e
  have hp : IsTupOf2 (h₃.push { cls := .type "tuple", data := .seq #[x, y] }) h₃.objs.size x y := Heap.get?_push_size _ rfl
  refine wpAny_pure ⟨_, rfl, ?_⟩
  show Q (.ref h₃.objs.size) _
  rw [hsz] at hp ⊢
  exact hQ x y _ tk3 px py (up _ _ hz₃) (D1.frame _ _ _ st1₃ fun b _ o e => up b o e) (D2.frame _ _ _ st2' fun b _ o e => up b o e) hp fun c o c1 c2 c3 e => up c o (kp c o c1 c2 c3 e)
theorem zipH_end {Q : Fin → Shared → Prop} (S : ZipSep2 z TI TO i1 i2 fp1 fp2) (D1 : Draws prog w A i1 fp1 n1 P1 St1) (D2 : Draws prog w A i2 fp2 n2 P2 St2)
    (hz : IsZipHeld s.heap z TI TO T f) (hT : s.heap.get? T = some oT) (hTI : IsTupOf2 s.heap TI (.ref i1) (.ref i2)) (st1 : St1 i s.heap) (st2 : St2 i s.heap) (l1 : i ≤ n1) (l2 : i ≤ n2) (he : i = n1 ∨ i = n2)
    (hE : ∀ h' tk e, (∀ c o, c ≠ z → c ≠ i1 → c ≠ i2 → s.heap.get? c = some o → h'.get? c = some o) → (∃ o, h'.get? e = some o ∧ o.cls = .type "StopIteration") → E (.ref e) { s with heap := h', toks := tk }) :
    wpAny (model prog w) A (Builtin.«zip.__next__» ⟨[.ref z], []⟩) Q E s := by
  show wpAny _ _ (field (.ref z) 2 >>= _) _ _ _
  refine wpAny_bind (wpAny_field hz rfl (x := .bool false) rfl ?_)
  show wpAny _ _ (field (.ref z) 3 >>= _) _ _ _
  refine wpAny_bind (wpAny_field hz rfl (x := .ref TI) rfl (wpAny_bind (wpAny_seqItems hTI rfl ?_)))
  show wpAny _ _ (Builtin.SmallTypes.ownedTupleIsFree (.ref z) >>= _) _ _ _
  refine wpAny_bind (wpAny_tupleHeld_zip hz hT fun h₁ hz₁ hs₁ => ?_)
  simp only [Bool.false_eq_true, if_false]
  refine wpAny_bind ?_
  rw [← Array.forIn_toList]
  simp only [List.forIn_cons, List.forIn_nil]
  refine wpAny_bind (wpAny_bind (wpAny_holding ?_))
  show wpAny _ _ (Builtin.SmallTypes.nextOf (.ref i1) >>= _) _ _ _
  by_cases h1 : i = n1
  · subst h1
    refine wpAny_bind (D1.done _ _ _ (D1.over st1 hs₁ S.zf1) fun h₂ e hs₂ hx => ?_)
    exact hE h₂ _ e (fun c o c1 c2 c3 q => hs₂ _ _ c2 (hs₁.extBut _ _ c1 q)) hx
  · refine wpAny_bind (D1.item i _ _ _ (by omega) (D1.over st1 hs₁ S.zf1) fun x h₂ tk2 px st1' hs₂ => wpAny_pure (wpAny_pure ?_))
    refine wpAny_bind (wpAny_bind (wpAny_holding ?_))
    show wpAny _ _ (Builtin.SmallTypes.nextOf (.ref i2) >>= _) _ _ _
    have h2 : i = n2 := by omega
    subst h2
    refine wpAny_bind (D2.done _ _ _ (D2.over (D2.over st2 hs₁ S.zf2) hs₂ S.sep1_2) fun h₃ e hs₃ hx => ?_)
    exact hE h₃ _ e (fun c o c1 c2 c3 q => hs₃ _ _ c3 (hs₂.extBut _ _ c2 (hs₁.extBut _ _ c1 q))) hx
theorem nextH_item {Q : Option Value → Shared → Prop} (S : ZipSep2 z TI TO i1 i2 fp1 fp2) (D1 : Draws prog w A.in1 i1 fp1 n1 P1 St1) (D2 : Draws prog w A.in1 i2 fp2 n2 P2 St2)
    (hz : IsZipHeld s.heap z TI TO T f) (hT : s.heap.get? T = some oT) (hTI : IsTupOf2 s.heap TI (.ref i1) (.ref i2)) (st1 : St1 i s.heap) (st2 : St2 i s.heap) (l1 : i < n1) (l2 : i < n2)
    (hQ : ∀ x y h' tk, P1 i x → P2 i y → IsZipHeld h' z TI TO T true → St1 (i + 1) h' → St2 (i + 1) h' → IsTupOf2 h' s.heap.objs.size x y →
      (∀ c o, c ≠ z → c ≠ i1 → c ≠ i2 → s.heap.get? c = some o → h'.get? c = some o) → Q (some (.ref s.heap.objs.size)) { s with heap := h', toks := tk }) : wpAny (model prog w) A (pyNext (.ref z)) Q E s := by
  have ty : s.TypeIs (.ref z) "zip" := ⟨_, hz, rfl⟩
  unfold pyNext
  refine wpAny_bind (wpAny_attempt (wpAny_callSpecial?_slot (name := Str.ofString "__next__") ty F.slot_zip_next ?_))
  exact wpAny_call_entry F.slot_zip_next ty F.entry_zip_next (zipH_item S D1 D2 hz hT hTI st1 st2 l1 l2 fun x y h' tk a1 a2 a3 a4 a5 a6 a7 => wpAny_pure (hQ x y h' tk a1 a2 a3 a4 a5 a6 a7)) (F.args_zip_next_1 _)
theorem nextH_end {Q : Option Value → Shared → Prop} (S : ZipSep2 z TI TO i1 i2 fp1 fp2) (D1 : Draws prog w A.in1 i1 fp1 n1 P1 St1) (D2 : Draws prog w A.in1 i2 fp2 n2 P2 St2)
    (hz : IsZipHeld s.heap z TI TO T f) (hT : s.heap.get? T = some oT) (hTI : IsTupOf2 s.heap TI (.ref i1) (.ref i2)) (st1 : St1 i s.heap) (st2 : St2 i s.heap) (l1 : i ≤ n1) (l2 : i ≤ n2) (he : i = n1 ∨ i = n2)
    (hQ : ∀ h' tk, (∀ c o, c ≠ z → c ≠ i1 → c ≠ i2 → s.heap.get? c = some o → h'.get? c = some o) → Q none { s with heap := h', toks := tk }) : wpAny (model prog w) A (pyNext (.ref z)) Q E s := by
  have ty : s.TypeIs (.ref z) "zip" := ⟨_, hz, rfl⟩
  unfold pyNext
  refine wpAny_bind (wpAny_attempt (wpAny_callSpecial?_slot (name := Str.ofString "__next__") ty F.slot_zip_next ?_))
  refine wpAny_call_entry F.slot_zip_next ty F.entry_zip_next (zipH_end S D1 D2 hz hT hTI st1 st2 l1 l2 he fun h' tk e hk ⟨o, ho, hc⟩ => ?_) (F.args_zip_next_1 _)
  refine wpAny_bind (wpAny_isInstance (T := "StopIteration") (b := true) ⟨o, ho, hc⟩ isSubtype_stop ?_)
  exact wpAny_pure (hQ _ _ hk)
theorem zip_no_len : typeLookup (.type "zip") "__len__" = pure none := am_miss_of_fast (by decide +kernel)
theorem zip_no_hint : typeLookup (.type "zip") "__length_hint__" = pure none := am_miss_of_fast (by decide +kernel)
end
/-! ### list(zip(a, b)) -/
/-- the walk of a zip into a list, i turns done -/
structure ZSt (t u : Bool) (z TI TO i1 i2 a b S : Addr) (its its2 : Array Value) (i : Nat) (h : Heap) : Prop where
  ti : IsTupOf2 h TI (.ref i1) (.ref i2)
  st1 : ItrK t h i1 a i ∧ ObK t h a its
  st2 : ItrK u h i2 b i ∧ ObK u h b its2
  zz : (IsZip h z TI TO .none ∧ ∃ x y, IsTupOf2 h TO x y) ∨ ∃ T f oT, IsZipHeld h z TI TO T f ∧ h.get? T = some oT ∧ T ≠ z ∧ T ≠ i1 ∧ T ≠ i2 ∧ T ≠ S
theorem ZSt.frame {t u : Bool} {z TI TO i1 i2 a b S : Addr} {its its2 : Array Value} {i : Nat} {h h' : Heap} (x : ZSt t u z TI TO i1 i2 a b S its its2 i h) (n : S ∉ [z, TI, TO, i1, i2, a, b]) (k : ∀ c o, c ≠ S → h.get? c = some o → h'.get? c = some o) : ZSt t u z TI TO i1 i2 a b S its its2 i h' := by
  simp only [List.mem_cons, List.not_mem_nil, or_false, not_or] at n
  obtain ⟨n1, n2, n3, n4, n5, n6, n7⟩ := n
  have ob : ∀ {t : Bool} {c : Addr} {its : Array Value}, S ≠ c → ObK t h c its → ObK t h' c its := fun {t c its} ne x => by
    cases t with
    | true => obtain ⟨o, e, r⟩ := x; exact ⟨o, k c o (Ne.symm ne) e, r⟩
    | false => obtain ⟨o, e, r⟩ := x; exact ⟨o, k c o (Ne.symm ne) e, r⟩
  refine ⟨k _ _ (Ne.symm n2) x.ti, ⟨x.st1.1.at fun o e => k _ o (Ne.symm n4) e, ob n6 x.st1.2⟩, ⟨x.st2.1.at fun o e => k _ o (Ne.symm n5) e, ob n7 x.st2.2⟩, ?_⟩
  rcases x.zz with ⟨hz, p, q, hO⟩ | ⟨T, f, oT, hz, hT, r1, r2, r3, r4⟩
  · exact .inl ⟨k _ _ (Ne.symm n1) hz, p, q, k _ _ (Ne.symm n3) hO⟩
  · exact .inr ⟨T, f, oT, k _ _ (Ne.symm n1) hz, k _ _ r4 hT, r1, r2, r3, r4⟩
section
variable {X : Cx} {pins : List (Addr × Obj)} {σ : L2.St} {H₀ F₀ : Hp} {β : List Addr} {t u : Bool} {z TI TO i1 i2 a b S : Addr} {its its2 : List Value} {xs ys : List V}
/-- one turn: the pair, or the end -/
theorem zst_next {A : Around} {E : Value → Shared → Prop} {s : Shared} {i : Nat} {Q : Option Value → Shared → Prop} (hh : A.in1.handled = none) (D : ZipSep2 z TI TO i1 i2 [i1, a] [i2, b]) (da : a ≠ i1) (db : b ≠ i2) (hS : S < s.heap.objs.size) (hSn : S ∉ [z, TI, TO, i1, i2, a, b])
    (x : ZSt t u z TI TO i1 i2 a b S its.toArray its2.toArray i s.heap)
    (item : ∀ v w h' tk, its[i]? = some v → its2[i]? = some w → IsTupOf2 h' s.heap.objs.size v w → ZSt t u z TI TO i1 i2 a b S its.toArray its2.toArray (i + 1) h' → (∀ c o, c ∉ [z, TI, TO, i1, i2] → s.heap.get? c = some o → h'.get? c = some o) → Q (some (.ref s.heap.objs.size)) { s with heap := h', toks := tk })
    (done : (its[i]? = none ∨ its2[i]? = none) → ∀ h' tk, (∀ c o, c ∉ [z, TI, TO, i1, i2] → s.heap.get? c = some o → h'.get? c = some o) → Q none { s with heap := h', toks := tk }) :
    wpAny (model X.prog X.w) A (pyNext (.ref z)) Q E s := by
  obtain ⟨ti, st1, st2, zz⟩ := x
  have out : ∀ {c : Addr}, c ∉ [z, TI, TO, i1, i2] → c ≠ z ∧ c ≠ TO ∧ c ≠ i1 ∧ c ≠ i2 := fun {c} hc => by
    simp only [List.mem_cons, List.not_mem_nil, or_false, not_or] at hc
    exact ⟨hc.1, hc.2.2.1, hc.2.2.2.1, hc.2.2.2.2⟩
  have new : ∀ {c : Addr} {o : Obj}, s.heap.get? c = some o → s.heap.objs.size ≠ c := fun {c o} e => Nat.ne_of_gt (Heap.lt_size e)
  have ni1 : s.heap.objs.size ≠ i1 := by obtain ⟨_, e, _⟩ := st1.1.obj; exact new e
  have ni2 : s.heap.objs.size ≠ i2 := by obtain ⟨_, e, _⟩ := st2.1.obj; exact new e
  by_cases hend : its[i]? = none ∨ its2[i]? = none
  · obtain ⟨n1, P1, S1, D1, s1, le1, en1⟩ := drawsAt t (prog := X.prog) (w := X.w) (A := A.in1) hh i1 a da its.toArray i st1.1 st1.2
    obtain ⟨n2, P2, S2, D2, s2, le2, en2⟩ := drawsAt u (prog := X.prog) (w := X.w) (A := A.in1) hh i2 b db its2.toArray i st2.1 st2.2
    have he : i = n1 ∨ i = n2 := by
      rcases hend with q | q
      · exact .inl (en1 (by simpa using q))
      · exact .inr (en2 (by simpa using q))
    rcases zz with ⟨hz, p, q, hO⟩ | ⟨T, f, oT, hz, hT, r1, r2, r3, r4⟩
    · exact wpAny_pyNext_zipD2_end D D1 D2 hz ti hO s1 s2 le1 le2 he fun h' tk hk => done hend h' tk fun c o hc e => let ⟨c1, c2, c3, c4⟩ := out hc; hk c o c1 c2 c3 c4 e
    · exact nextH_end D D1 D2 hz hT ti s1 s2 le1 le2 he fun h' tk hk => done hend h' tk fun c o hc e => let ⟨c1, _, c3, c4⟩ := out hc; hk c o c1 c3 c4 e
  · rw [not_or] at hend
    obtain ⟨v, hv⟩ := Option.ne_none_iff_exists'.mp hend.1
    obtain ⟨w, hw⟩ := Option.ne_none_iff_exists'.mp hend.2
    have D1 := drawsK t (prog := X.prog) (w := X.w) (A := A.in1) hh i1 a da its.toArray
    have D2 := drawsK u (prog := X.prog) (w := X.w) (A := A.in1) hh i2 b db its2.toArray
    have l1 : i < its.toArray.size := (List.getElem?_eq_some_iff.mp hv).1
    have l2 : i < its2.toArray.size := (List.getElem?_eq_some_iff.mp hw).1
    have eqs : ∀ {v' w' : Value}, its.toArray[i]? = some v' → its2.toArray[i]? = some w' → v' = v ∧ w' = w := fun {v' w'} e1 e2 => by
      rw [List.getElem?_toArray] at e1 e2
      rw [hv] at e1; rw [hw] at e2
      cases e1; cases e2
      exact ⟨rfl, rfl⟩
    rcases zz with ⟨hz, p, q, hO⟩ | ⟨T, f, oT, hz, hT, r1, r2, r3, r4⟩
    · refine wpAny_pyNext_zipD2_item D D1 D2 hz ti hO st1 st2 l1 l2 fun v' w' h' tk e1 e2 a1 a2 a3 a4 a5 a6 hk => ?_
      obtain ⟨rfl, rfl⟩ := eqs e1 e2
      exact item _ _ h' tk hv hw a5 ⟨hk _ _ D.TIz D.TITO D.TIi1 D.TIi2 ti, a3, a4, .inr ⟨s.heap.objs.size, false, _, a1, a5, new hz, ni1, ni2, Nat.ne_of_gt hS⟩⟩ fun c o hc e => let ⟨c1, c2, c3, c4⟩ := out hc; hk c o c1 c2 c3 c4 e
    · refine nextH_item D D1 D2 hz hT ti st1 st2 l1 l2 fun v' w' h' tk e1 e2 a1 a3 a4 a5 hk => ?_
      obtain ⟨rfl, rfl⟩ := eqs e1 e2
      exact item _ _ h' tk hv hw a5 ⟨hk _ _ D.TIz D.TIi1 D.TIi2 ti, a3, a4, .inr ⟨T, true, oT, a1, hk _ _ r1 r2 r3 hT, r1, r2, r3, r4⟩⟩ fun c o hc e => let ⟨c1, _, c3, c4⟩ := out hc; hk c o c1 c3 c4 e
end
end MP
end

section
set_option Elab.async false
set_option linter.all false
set_option maxRecDepth 100000
set_option maxHeartbeats 4000000
namespace MP
open PySem PySem.Spec L2 PyProof.Rows
theorem zipD_at : ∀ {a b : List D} {i : Nat} {x y : D}, a[i]? = some x → b[i]? = some y → (zipD a b)[i]? = some (.tup [x, y])
  | p :: a, q :: b, 0, x, y, h1, h2 => by
    cases (show p = x by simpa using h1)
    cases (show q = y by simpa using h2)
    rfl
  | p :: a, q :: b, i + 1, x, y, h1, h2 => by
    show (zipD a b)[i]? = _
    exact zipD_at (by simpa using h1) (by simpa using h2)
theorem zipD_end : ∀ {a b : List D} {i : Nat}, a[i]? = none ∨ b[i]? = none → (zipD a b).take i = zipD a b
  | [], b, i, _ => by simp [zipD]
  | _ :: _, [], i, _ => by simp [zipD]
  | p :: a, q :: b, 0, h => by simp at h
  | p :: a, q :: b, i + 1, h => by
    show (D.tup [p, q] :: zipD a b).take (i + 1) = D.tup [p, q] :: zipD a b
    rw [List.take_succ_cons, zipD_end (by simpa using h)]
section
variable {X : Cx} {pins : List (Addr × Obj)} {σ : L2.St} {H₀ F₀ : Hp} {β : List Addr} {t u : Bool} {z TI TO i1 i2 a b S : Addr} {its its2 : List Value} {xs ys : List V} {ds es : List D} {h₀ : Hh}
theorem loopZ {A : Around} {R : Result → Shared → Prop} (hh : A.in1.in1.handled = none) (D : ZipSep2 z TI TO i1 i2 [i1, a] [i2, b]) (da : a ≠ i1) (db : b ≠ i2) (hSn : S ∉ [z, TI, TO, i1, i2, a, b]) (hx : Vals xs its) (hy : Vals ys its2) (wx : VRs X.K F₀ β ds xs) (wy : VRs X.K F₀ β es ys) (sm0 : Same F₀ H₀) (gd : Good X.K F₀ β h₀) (hz : xs.length ≤ sizeLine)
    (fin : ∀ (H F : Hp) (s : Shared) (acc : List V), L2.Inv X pins σ H s → H S = some (.lst acc) → PStep F₀ H₀ F H → F S = none → VRs X.K F β (zipD ds es) acc → R (.ok (.ret .none)) s) :
    ∀ (k i : Nat) (s : Shared) (H F : Hp) (acc : List V), ds.length - i = k → i ≤ ds.length → L2.Inv X pins σ H s → (∀ c ∈ [z, TI, TO, i1, i2], FpOk X pins H c) → (∀ c ∈ [z, TI, TO, i1, i2], c < s.heap.objs.size) → ZSt t u z TI TO i1 i2 a b S its.toArray its2.toArray i s.heap → H S = some (.lst acc) → acc.length = i → PStep F₀ H₀ F H → F S = none → H₀ S = none → VRs X.K F β ((zipD ds es).take i) acc →
      codeAny (model X.prog X.w) A (.builtin "list.extend.loop" ⟨[.ref S, .ref z, .none], []⟩) R s := by
  intro k
  induction k with
  | zero =>
    intro i s H F acc hk hi I hf hlt st hS hl ps fS h0S w
    refine codeAny_builtin PySem.F.entry_extend_loop ?_
    rw [Around.under_plainId PySem.F.plain_extend_loop _]
    show wpAny _ A.in1 (pyNext (.ref z) >>= _) _ _ s
    have ei : its[i]? = none := by rw [List.getElem?_eq_none_iff, ← hx.length, wx.len]; omega
    obtain ⟨_, _, _, _, _, eS⟩ := I.lstM hS
    refine wpAny_bind (zst_next (X := X) hh D da db (Heap.lt_size eS) hSn st (fun v w h' tk e1 _ _ _ _ => ?_) fun he h' tk kp => ?_)
    · rw [ei] at e1; cases e1
    · have he : ds[i]? = none := by rw [List.getElem?_eq_none_iff]; omega
      rw [zipD_end (.inl he)] at w
      exact wpAny_pure (fin H F _ acc (I.turnedL (t' := tk) (ch := [z, TI, TO, i1, i2]) (fun c o hb q => kp c o hb q) hf) hS ps fS w)
  | succ k ih =>
    intro i s H F acc hk hi I hf hlt st hS hl ps fS h0S w
    refine codeAny_builtin PySem.F.entry_extend_loop ?_
    rw [Around.under_plainId PySem.F.plain_extend_loop _]
    show wpAny _ A.in1 (pyNext (.ref z) >>= _) _ _ s
    obtain ⟨hzS, itsS, nS, rS, lS, eS⟩ := I.lstM hS
    refine wpAny_bind (zst_next (X := X) hh D da db (Heap.lt_size eS) hSn st (fun v w' h' tk e1 e2 hT st' kp => ?_) fun he h' tk kp => ?_)
    · obtain ⟨x, hxi, rx⟩ : ∃ x, xs[i]? = some x ∧ RelV x v := by
        have hi' : i < xs.length := by rw [hx.length]; exact (List.getElem?_eq_some_iff.mp e1).1
        obtain ⟨v2, q1, q2⟩ := hx.get (List.getElem?_eq_getElem hi')
        rw [e1] at q1; cases q1
        exact ⟨_, List.getElem?_eq_getElem hi', q2⟩
      obtain ⟨y, hyi, ry⟩ : ∃ y, ys[i]? = some y ∧ RelV y w' := by
        have hi' : i < ys.length := by rw [hy.length]; exact (List.getElem?_eq_some_iff.mp e2).1
        obtain ⟨v2, q1, q2⟩ := hy.get (List.getElem?_eq_getElem hi')
        rw [e2] at q1; cases q1
        exact ⟨_, List.getElem?_eq_getElem hi', q2⟩
      have new : ObjOk X.prog X.w (upd H s.heap.objs.size (.tup [x, y])) h' s.heap.objs.size (.tup [x, y]) :=
        ⟨by show 2 ≤ sizeLine; decide, [v, w'], .cons rx (.cons ry .nil), ⟨_, hT, rfl, _, rfl⟩⟩
      have I1 : L2.Inv X pins σ (upd H s.heap.objs.size (.tup [x, y])) { s with heap := h', toks := tk } := I.turnedNew (ch := [z, TI, TO, i1, i2]) kp hf (Nat.le_refl _) new
      have nT : H s.heap.objs.size = none := I.hok.fresh (Nat.le_refl _)
      have hST : S ≠ s.heap.objs.size := Nat.ne_of_lt (Heap.lt_size eS)
      have hS1 : (upd H s.heap.objs.size (.tup [x, y])) S = some (.lst acc) := by rw [upd_ne hST]; exact hS
      obtain ⟨_, its1, n1, r1, l1, e1'⟩ := I1.lstM hS1
      have I2 := I1.lset (t' := tk) (its' := its1 ++ [.ref s.heap.objs.size]) (f := (·.push (.ref s.heap.objs.size))) hS1 e1' (by simp) (ys := acc ++ [.ref s.heap.objs.size]) (r1.append (show Vals [V.ref s.heap.objs.size] [Value.ref s.heap.objs.size] from .cons rfl .nil)) (by
        rw [List.length_append, List.length_singleton]
        have := (List.getElem?_eq_some_iff.mp hxi).1
        omega)
      show wpAny _ A.in1 (updateSeq S (·.push (.ref s.heap.objs.size)) >>= _) _ _ _
      refine wpAny_bind ?_
      refine wpAny_updateSeq e1' rfl (wpAny_pure ⟨plainId_quiet PySem.F.plain_extend_loop _, ih (i + 1) _ _ (upd F s.heap.objs.size (.tup [x, y])) (acc ++ [.ref s.heap.objs.size]) (by omega) (by omega) I2 (fun c hc => ?_) (fun c hc => ?_) (st'.frame hSn fun c o hc e => (Heap.get?_update_other _ _ (Ne.symm hc)).trans e) upd_same (by rw [List.length_append, hl]; rfl) ?_ ?_ h0S ?_⟩) (by rw [List.size_toArray]; omega) (by
        have := (List.getElem?_eq_some_iff.mp hxi).1
        rw [Array.size_push, List.size_toArray]; omega)
      · refine ⟨?_, (hf c hc).2⟩
        have c1 : c ≠ S := fun e => by have := (hf c hc).1; rw [e, hS] at this; cases this
        rw [upd_ne c1, upd_ne (Nat.ne_of_lt (hlt c hc))]
        exact (hf c hc).1
      · have : s.heap.objs.size < h'.objs.size := Heap.lt_size hT
        rw [show ({ heap := h', gens := s.gens, drawn := s.drawn, toks := tk, os := s.os } : Shared).heap = h' from rfl, Heap.size_update]
        exact Nat.lt_trans (hlt c hc) this
      · have nF := sm_none ps.sm nT
        refine ⟨fun c o q => ?_, fun c o q => ?_, fun c o q => ?_, fun c o q1 q2 => ?_⟩
        · have := ps.ff c o q
          rw [upd_ne (ne_of_none this nF)]; exact this
        · have := ps.hh c o q
          rw [upd_ne (ne_of_none q h0S), upd_ne (ne_of_none this nT)]; exact this
        · by_cases hc : c = s.heap.objs.size
          · subst hc
            rw [upd_same] at q
            cases q
            rw [upd_ne (Ne.symm hST), upd_same]
          · rw [upd_ne hc] at q
            rw [upd_ne (ne_of_none q fS), upd_ne hc]
            exact ps.sm c o q
        · have := ps.hh c o q2
          rw [upd_ne (ne_of_none this nT)]
          exact ps.nw c o q1 q2
      · rw [upd_ne hST]; exact fS
      · obtain ⟨d1, hd1⟩ : ∃ d, ds[i]? = some d := ⟨_, List.getElem?_eq_getElem (by omega)⟩
        obtain ⟨v1, q1, w1⟩ := wx.get hd1
        rw [hxi] at q1; cases q1
        obtain ⟨d2, hd2⟩ : ∃ d, es[i]? = some d := ⟨_, List.getElem?_eq_getElem (by rw [← wy.len]; exact (List.getElem?_eq_some_iff.mp hyi).1)⟩
        obtain ⟨v2, q2, w2⟩ := wy.get hd2
        rw [hyi] at q2; cases q2
        rw [List.take_add_one, zipD_at hd1 hd2]
        have nF := sm_none ps.sm nT
        have x0 : Ext F₀ β (upd F s.heap.objs.size (.tup [x, y])) β := ⟨fun _ _ q => q, fun c o q m => ⟨by rw [upd_ne (ne_of_none (ps.ff c o q) nF)]; exact ps.ff c o q, m⟩⟩
        have x1 : Ext F β (upd F s.heap.objs.size (.tup [x, y])) β := ⟨fun _ _ q => q, fun c o q m => ⟨by rw [upd_ne (ne_of_none q nF)]; exact q, m⟩⟩
        refine (VRs.ext x1 _ _ w).app (VRs.one ⟨s.heap.objs.size, [x, y], rfl, .inl ⟨fun m => ?_, .inl upd_same⟩, ⟨_, _, rfl, VR.ext x0 _ _ w1, ⟨_, _, rfl, VR.ext x0 _ _ w2, rfl⟩⟩⟩)
        obtain ⟨_, _, _, _, _, f, _⟩ := gd.mem m
        have := ps.ff _ _ f
        rw [nF] at this; cases this
    · have hd : ds[i]? = none ∨ es[i]? = none := by
        rcases he with q | q
        · left; rw [List.getElem?_eq_none_iff] at q ⊢; rw [← wx.len, hx.length]; exact q
        · right; rw [List.getElem?_eq_none_iff] at q ⊢; rw [← wy.len, hy.length]; exact q
      rw [zipD_end hd] at w
      exact wpAny_pure (fin H F _ acc (I.turnedL (t' := tk) (ch := [z, TI, TO, i1, i2]) (fun c o hb q => kp c o hb q) hf) hS ps fS w)
/-- list(z), z a zip that was just made -/
theorem list_zip {s s2 : Shared} {H F : Hp} {h : Hh} {Q : VK} (hc : X.calm = true) (I : L2.Inv X pins σ H s) (sm : Same F H) (gd : Good X.K F β h) (D : ZipSep2 z TI TO i1 i2 [i1, a] [i2, b]) (da : a ≠ i1) (db : b ≠ i2)
    (hx : Vals xs its) (hy : Vals ys its2) (wx : VRs X.K F β ds xs) (wy : VRs X.K F β es ys) (hzx : xs.length ≤ sizeLine)
    (I2 : L2.Inv X pins σ H s2) (hf : ∀ c ∈ [z, TI, TO, i1, i2], FpOk X pins H c) (hz : IsZip s2.heap z TI TO .none) (hTI : IsTupOf2 s2.heap TI (.ref i1) (.ref i2)) (hTO : ∃ x y, IsTupOf2 s2.heap TO x y) (h1 : ItrK t s2.heap i1 a 0) (h2 : ItrK u s2.heap i2 b 0) (oa : ObK t s2.heap a its.toArray) (ob : ObK u s2.heap b its2.toArray)
    (q : ∀ v F' H', PStep F H F' H' → RR X.K F' β H H' (.fl (zipD ds es)) v → Q v H') :
    wpAny (model X.prog X.w) X.A (call (.type "list") [.ref z]) (EP X pins σ Q) X.xe s2 := by
  have hlt : ∀ c ∈ [z, TI, TO, i1, i2, a, b], c < s2.heap.objs.size := fun c hcm => by
    have lo : ∀ {t : Bool} {c : Addr} {its : Array Value}, ObK t s2.heap c its → c < s2.heap.objs.size := fun {t c its} x => by
      cases t with
      | true => obtain ⟨o, e, _⟩ := x; exact Heap.lt_size e
      | false => obtain ⟨o, e, _⟩ := x; exact Heap.lt_size e
    have e' : c = z ∨ c = TI ∨ c = TO ∨ c = i1 ∨ c = i2 ∨ c = a ∨ c = b := by simpa using hcm
    obtain ⟨p, r, hTO⟩ := hTO
    rcases e' with q | q | q | q | q | q | q
    · rw [q]; exact Heap.lt_size hz
    · rw [q]; exact Heap.lt_size hTI
    · rw [q]; exact Heap.lt_size hTO
    · rw [q]; obtain ⟨_, e1, _⟩ := h1.obj; exact Heap.lt_size e1
    · rw [q]; obtain ⟨_, e2, _⟩ := h2.obj; exact Heap.lt_size e2
    · rw [q]; exact lo oa
    · rw [q]; exact lo ob
  have ty : ∀ {g : Heap} {tk : Nat}, g.get? z = some { cls := .type "zip", data := .fields #[.none, .bool false, .bool false, .ref TI, .ref TO] } → Shared.TypeIs { s2 with heap := g, toks := tk } (.ref z) "zip" := fun {g tk} e => ⟨_, e, rfl⟩
  refine callType_codes (Q₁ := fun obj s₁ => obj = .ref s2.heap.objs.size ∧ s₁ = { s2 with heap := s2.heap.push { cls := .type "list", data := .seq #[] } }) PySem.F.called_list (PySem.F.typeCall_list_1 _) PySem.F.entry_list_init (code_list_new _ ⟨rfl, rfl⟩) fun obj s₁ h₁ => ?_
  obtain ⟨rfl, rfl⟩ := h₁
  have hS : (s2.heap.push { cls := .type "list", data := .seq #[] }).get? s2.heap.objs.size = some { cls := .type "list", data := .seq #[] } := Heap.get?_push_size _ rfl
  refine ⟨⟨_, hS, rfl⟩, PySem.F.args_list_init_2 _ _, ?_⟩
  have nS : H s2.heap.objs.size = none := I2.hok.fresh (Nat.le_refl _)
  have hSn : s2.heap.objs.size ∉ [z, TI, TO, i1, i2, a, b] := fun m => Nat.lt_irrefl _ (hlt _ m)
  have hSz : s2.heap.objs.size ≠ z := fun e => hSn (by rw [e]; simp)
  -- the list is tracked from its start
  have J0 : L2.Inv X pins σ (upd H s2.heap.objs.size (.lst [])) { s2 with heap := s2.heap.push { cls := .type "list", data := .seq #[] } } :=
    I2.laid (t' := s2.toks) (fun b o e => Heap.get?_push_of_some _ e) (Nat.le_refl _) ⟨Nat.zero_le _, [], 0, .nil, hS⟩
  show wpAny _ _ (do let old ← Builtin.List.listItems (.ref s2.heap.objs.size); Builtin.List.listUpdate (.ref s2.heap.objs.size) (fun _ => #[]); letGo old.toList.reverse; Builtin.List.listExtendWith (.ref s2.heap.objs.size) (.ref z) .none) _ _ _
  refine wpAny_bind ?_
  unfold Builtin.List.listItems
  refine wpAny_bind (wpAny_seqItems hS rfl (wpAny_pure ?_))
  show wpAny _ _ (updateSeq s2.heap.objs.size (fun _ => #[]) >>= fun _ => letGo (#[] : Array Value).toList.reverse >>= fun _ => Builtin.List.listExtendWith (.ref s2.heap.objs.size) (.ref z) .none) _ _ _
  have J1 := J0.lset (t' := s2.toks) (its := []) (its' := []) (ys := []) (f := fun _ => #[]) upd_same hS rfl .nil (Nat.zero_le _)
  refine wpAny_bind (wpAny_updateSeq hS rfl ?_)
  have hS₂ := Heap.get?_update_self (Obj.mapSeq (fun _ => (#[] : Array Value))) hS rfl
  refine wpAny_bind (wpAny_letGo ?_)
  have hz1 : ((s2.heap.push { cls := .type "list", data := .seq #[] }).update s2.heap.objs.size (Obj.mapSeq fun _ => #[])).get? z = some { cls := .type "zip", data := .fields #[.none, .bool false, .bool false, .ref TI, .ref TO] } := (Heap.get?_update_other _ _ hSz).trans (Heap.get?_push_of_some _ hz)
  unfold Builtin.List.listExtendWith
  refine wpAny_bind (wpAny_typeOf (T := "zip") (ty hz1) ?_)
  have g1 : Builtin.List.listSameRef (.ref s2.heap.objs.size) (.ref z) = false := by simp [Builtin.List.listSameRef, hSz]
  have g2 : (Value.type "zip" == Value.type "list") = false := by decide
  have g3 : (Value.type "zip" == Value.type "tuple") = false := by decide
  simp only [g1, g2, g3, Bool.or_false, Bool.false_eq_true, if_false]
  refine wpAny_bind (wpAny_pyIter_zip hz1 ?_)
  refine wpAny_bind (wpAny_holding ?_)
  unfold Builtin.List.listLengthHint
  refine wpAny_bind (wpAny_specialOf (ty hz1) zip_no_len ?_)
  show wpAny _ _ (specialOf (Value.ref z) (Str.ofString "__length_hint__") >>= _) _ _ _
  refine wpAny_bind (wpAny_specialOf (ty hz1) zip_no_hint (wpAny_pure ?_))
  show wpAny _ _ (rule "list.extend.makes-room" >>= fun _ => Builtin.List.listTouch (.ref s2.heap.objs.size) >>= fun _ => again (.builtin "list.extend.loop" ⟨[.ref s2.heap.objs.size, .ref z, .none], []⟩)) _ _ _
  refine wpAny_bind (wpAny_rule (wpAny_bind ?_))
  show wpAny _ _ (updateSeq s2.heap.objs.size (·.push .none) >>= fun _ => updateSeq s2.heap.objs.size (·.pop)) _ _ _
  have J2 := J1.lset (t' := s2.toks) (its := []) (its' := [.none]) (ys := [.non]) (f := (·.push Value.none)) upd_same hS₂ rfl (show Vals [V.non] [Value.none] from .cons rfl .nil) (by decide)
  refine wpAny_bind (wpAny_updateSeq hS₂ rfl ?_)
  have hS₃ := Heap.get?_update_self (Obj.mapSeq (·.push Value.none)) hS₂ rfl
  have J3 := J2.lset (t' := s2.toks) (its := [.none]) (its' := []) (ys := []) (f := (·.pop)) upd_same hS₃ rfl .nil (Nat.zero_le _)
  refine wpAny_updateSeq (hz := by seq_fits) hS₃ rfl ?_
  have hS₄ := Heap.get?_update_self (Obj.mapSeq (·.pop)) hS₃ rfl
  have oth : ∀ c o, c ≠ s2.heap.objs.size → s2.heap.get? c = some o → ((((s2.heap.push { cls := .type "list", data := .seq #[] }).update s2.heap.objs.size (Obj.mapSeq fun _ => #[])).update s2.heap.objs.size (Obj.mapSeq (·.push Value.none))).update s2.heap.objs.size (Obj.mapSeq (·.pop))).get? c = some o := fun c o ne e =>
    (Heap.get?_update_other _ _ (Ne.symm ne)).trans ((Heap.get?_update_other _ _ (Ne.symm ne)).trans ((Heap.get?_update_other _ _ (Ne.symm ne)).trans (Heap.get?_push_of_some _ e)))
  have ups : ∀ (H : Hp) (o1 o2 : HO), upd (upd H s2.heap.objs.size o1) s2.heap.objs.size o2 = upd H s2.heap.objs.size o2 := fun H o1 o2 => by
    funext c
    by_cases e : c = s2.heap.objs.size
    · subst e; rw [upd_same, upd_same]
    · rw [upd_ne e, upd_ne e, upd_ne e]
  rw [ups, ups, ups] at J3
  have zst : ZSt t u z TI TO i1 i2 a b s2.heap.objs.size its.toArray its2.toArray 0 s2.heap := ⟨hTI, ⟨h1, oa⟩, ⟨h2, ob⟩, .inl ⟨hz, hTO⟩⟩
  refine wpAny_pure ⟨plainId_quiet PySem.F.plain_extend_loop _, loopZ (A := X.A.in1) (t := t) (u := u) (I2.ok.hd hc) D da db hSn hx hy wx wy sm gd hzx (fun H' F' s' acc I' e' ps' f' w' => ?_) _ 0 _ _ F [] rfl (Nat.zero_le _) J3 (fun c hcm => ?_) (fun c hcm => ?_) (zst.frame hSn oth) upd_same rfl (.hidden sm nS) (sm_none sm nS) nS rfl⟩
  · exact ⟨rfl, .ref s2.heap.objs.size, H', I', rfl, q _ F' H' ps' ⟨_, acc, rfl, nS, f', e', w'⟩⟩
  · have hcm' : c ∈ [z, TI, TO, i1, i2, a, b] := by
      simp only [List.mem_cons, List.not_mem_nil, or_false] at hcm ⊢
      rcases hcm with e | e | e | e | e <;> simp [e]
    exact ⟨by rw [upd_ne (Nat.ne_of_lt (hlt c hcm'))]; exact (hf c hcm).1, (hf c hcm).2⟩
  · have hcm' : c ∈ [z, TI, TO, i1, i2, a, b] := by
      simp only [List.mem_cons, List.not_mem_nil, or_false] at hcm ⊢
      rcases hcm with e | e | e | e | e <;> simp [e]
    rw [Heap.size_update, Heap.size_update, Heap.size_update, Heap.size_push]
    exact Nat.lt_succ_of_lt (hlt c hcm')
end
end MP
end

section
set_option Elab.async false
set_option linter.all false
set_option maxRecDepth 100000
set_option maxHeartbeats 4000000
namespace MP
open PySem PySem.Spec L2 PyProof.Rows
section
variable {X : Cx} {e e2 : Expr} {d d2 : Den} {p p2 pos q : Pos} {x : Str}
theorem sqk_of {K : Kf} {H : Hp} {a : Addr} {ws : List V} (h : SqL K H a ws ∨ SqT K H a ws) : ∃ t, SqK t K H a ws := by
  rcases h with h | h
  · exact ⟨false, h⟩
  · exact ⟨true, h⟩
theorem pd_lzip (hc : X.calm = true) (hg : Gl X "list") (hm : X.mg "list" = none) (hg2 : Gl X "zip") (hm2 : X.mg "zip" = none) (he : PE X e (tD X.K d)) (he2 : PE X e2 (tD X.K d2)) (hs : isStar e = false) (hs2 : isStar e2 = false) :
    PE X (.Call (.Name "list" p) [.Call (.Name "zip" p2) [e, e2] [] q] [] pos) (tD X.K (kBi .lzip (kCons d (kCons d2 kNil)))) := by
  refine ⟨fun pins s σ H Q I ⟨F, β, h, en, sm, gd, se, post⟩ => ?_⟩
  have e0 : kBi .lzip (kCons d (kCons d2 kNil)) en h = (d en h).bind fun r h => (d2 en h).bind fun r2 h => ofO (bLzip [r, r2] h) h := by
    unfold kBi kCons kNil
    cases d en h with
    | ok r h1 => simp only [Out.bind]; cases d2 en h1 <;> rfl
    | _ => rfl
  rw [e0] at post
  have hb : tCons (tD X.K d) (tCons (tD X.K d2) tNil) σ H (fun vs H1 => ∃ t u a b xs ys F1 β1 h1 ds es, vs = [.ref a, .ref b] ∧ Same F1 H1 ∧ Good X.K F1 β1 h1 ∧ SqK t X.K H1 a xs ∧ SqK u X.K H1 b ys ∧ VRs X.K F1 β1 ds xs ∧ VRs X.K F1 β1 es ys ∧
      ∀ v F' H', PStep F1 H1 F' H' → RR X.K F' β1 H1 H' (.fl (zipD ds es)) v → Q v H') := by
    refine bindE sm gd se post fun r v F1 β1 H1 h1 sm1 st1 gd1 se1 rr1 post1 => ?_
    refine bindE sm1 gd1 se1 post1 fun r2 v2 F2 β2 H2 h2 sm2 st2 gd2 se2 rr2 post2 => ?_
    unfold ofO at post2
    split at post2
    case h_2 => exact post2.elim
    rename_i r' e'
    have e' : (match viewS h2 r, viewS h2 r2 with
      | some a, some b => if line (a.length + b.length) then some (R.fl (zipD a b)) else none
      | _, _ => none) = some r' := e'
    split at e'
    case h_2 => cases e'
    rename_i ds es eds ees
    split at e'
    case isFalse => cases e'
    cases e'
    obtain ⟨a, xs, rfl, q1, w1⟩ := viewS_of sm2 gd2 (rr1.rv.step st2) eds
    obtain ⟨b, ys, rfl, q2, w2⟩ := viewS_of sm2 gd2 rr2.rv ees
    obtain ⟨t, q1⟩ := sqk_of q1
    obtain ⟨u, q2⟩ := sqk_of q2
    exact ⟨t, u, a, b, xs, ys, F2, β2, h2, ds, es, rfl, sm2, gd2, q1, q2, w1, w2, fun v F' H' ps rr => post2 v F' β2 H' ps.sm ps.step (gd2.more ps.ff) rr⟩
  have ha : PA X [e, e2] (tCons (tD X.K d) (tCons (tD X.K d2) tNil)) := pa_cons he (pa_cons he2 pa_nil (star_cons _ _ _ hs2)) (star_cons _ _ _ hs)
  refine Call_ (ld_blt I hg hm PyProof.Rows.boot_list ?_)
  refine PyProof.Rows.callWith_type1 (PyProof.Rows.args_cons ?_ rfl) rfl rfl
  refine Call_ (ld_blt I hg2 hm2 PyProof.Rows.boot_zip (PyProof.Rows.callWith_type1 (thn (ha.run q pins s σ H _ I hb) fun us s1 ⟨vs, H1, I1, r1, t, u, a, b, xs, ys, F1, β1, h1, ds, es, ex, sm1, gd1, hqx, hqy, w1, w2, k⟩ => ?_) (star_cons _ _ _ hs) (star_back _ _ _ (by rw [List.all_cons, hs2]; rfl))))
  subst ex
  cases r1 with
  | cons r rr =>
  cases rr with
  | cons r' rr =>
  cases rr
  cases r
  cases r'
  obtain ⟨its, rv, p1, la, hz1⟩ := sqk_obj I1 hqx
  obtain ⟨its2, rv2, p2', lb, _⟩ := sqk_obj I1 hqy
  refine zip_begins2 (beginsK t a its.toArray) (beginsK u b its2.toArray) p1 p2' fun h' hz hTI hTO z1 z2 hsz hk => PyProof.Rows.args_nil ?_
  have I2 : L2.Inv X pins σ H1 { s1 with heap := h' } := I1.kept (t' := s1.toks) hk
  have D := zip_sep2 (N := s1.heap.objs.size) (fp1 := [a]) (fp2 := [b]) (fun c hc => by rw [List.mem_singleton] at hc; rw [hc]; exact la) (fun c hc => by rw [List.mem_singleton] at hc; rw [hc]; exact lb)
  have ob : ∀ {t : Bool} {c : Addr} {its : Array Value}, ObK t s1.heap c its → ObK t h' c its := fun {t c its} x => by
    cases t with
    | true => obtain ⟨o, e, r⟩ := x; exact ⟨o, hk c o e, r⟩
    | false => obtain ⟨o, e, r⟩ := x; exact ⟨o, hk c o e, r⟩
  refine list_zip (t := t) (u := u) hc I1 sm1 gd1 D (Nat.ne_of_lt la) (Nat.ne_of_lt (Nat.lt_succ_of_lt lb)) rv rv2 w1 w2 hz1 I2 (fun c hcm => fp_of I1 ?_) hz hTI ⟨_, _, hTO⟩ (.new z1) (.new z2) (ob p1) (ob p2') k
  simp only [List.mem_cons, List.not_mem_nil, or_false] at hcm
  rcases hcm with z | z | z | z | z
  · rw [z]; exact Nat.le_add_right _ _
  · rw [z]; exact Nat.le_add_right _ _
  · rw [z]; exact Nat.le_add_right _ _
  · rw [z]; exact Nat.le_refl _
  · rw [z]; exact Nat.le_add_right _ _
end
end MP
end

section
set_option Elab.async false
set_option linter.all false
set_option maxRecDepth 100000
set_option maxHeartbeats 4000000
namespace MP
open PySem PySem.Spec L2 PyProof.Rows
/-! ### targets -/
/-- all slots but these stay -/
def Keeps (vs : List Nat) (σ σ' : L2.St) : Prop := σ'.length = σ.length ∧ ∀ j, j ∉ vs → σ'[j]? = σ[j]?
theorem Keeps.refl {vs : List Nat} {σ : L2.St} : Keeps vs σ σ := ⟨rfl, fun _ _ => rfl⟩
theorem Keeps.trans {vs : List Nat} {σ σ1 σ2 : L2.St} (a : Keeps vs σ σ1) (b : Keeps vs σ1 σ2) : Keeps vs σ σ2 := ⟨b.1.trans a.1, fun j h => (b.2 j h).trans (a.2 j h)⟩
theorem wipe_at (σ : L2.St) : ∀ (vs : List Nat) (j : Nat), (L2.wipe σ vs)[j]? = if j ∈ vs then (if j < σ.length then some none else none) else σ[j]?
  | [], j => by simp [L2.wipe]
  | v :: vs, j => by
    unfold L2.wipe
    by_cases h : j = v
    · subst h
      by_cases hl : j < σ.length
      · rw [List.getElem?_set_self (by rw [L2.wipe_length]; exact hl)]; simp [hl]
      · rw [List.getElem?_eq_none (by rw [List.length_set, L2.wipe_length]; omega)]; simp [hl]
    · rw [List.getElem?_set_ne (Ne.symm h), wipe_at σ vs j]
      simp [h]
theorem Keeps.wipe {vs : List Nat} {σ σ' : L2.St} (k : Keeps vs σ σ') : L2.wipe σ' vs = L2.wipe σ vs := by
  apply List.ext_getElem?
  intro j
  rw [wipe_at, wipe_at, k.1]
  by_cases h : j ∈ vs
  · simp [h]
  · simp [h, k.2 j h]
theorem Keeps.wipe2 {vs : List Nat} {σ σ' : L2.St} (k : Keeps vs (L2.wipe σ vs) σ') : L2.wipe σ' vs = L2.wipe σ vs := by
  have := k.wipe
  rw [this]
  apply List.ext_getElem?
  intro j
  rw [wipe_at, wipe_at, L2.wipe_length]
  by_cases h : j ∈ vs <;> simp [h]
def PostG (K : Kf) (vs : List Nat) (σ0 : L2.St) (F : Hp) (β : List Addr) (H : Hp) (o : Out En) (Q : L2.St → Hp → Prop) : Prop := match o with
  | .ok en' h' => ∀ F' β' H' σ', Same F' H' → Step F β H F' β' H' → Good K F' β' h' → SimE K F' β' en' σ' → Keeps vs σ0 σ' → Q σ' H'
  | _ => False
def tG (K : Kf) (vs : List Nat) (d : DenT) : TG := fun v σ H Q => ∃ F β h F0 β0 H₀ en r, Same F0 H₀ ∧ Step F0 β0 H₀ F β H ∧ Same F H ∧ Good K F β h ∧ SimE K F β en σ ∧ RR K F β H₀ H r v ∧ PostG K vs σ F0 β0 H₀ (d en r h) Q
def tGs (K : Kf) (vs : List Nat) (d : DenTs) : TGs := fun ws σ H Q => ∃ F β h en ds, Same F H ∧ Good K F β h ∧ SimE K F β en σ ∧ VRs K F β ds ws ∧ PostG K vs σ F β H (d en ds h) Q
section
variable {K : Kf} {F F' H H' F1 H1 : Hp} {β β' β1 : List Addr} {h : Hh} {en : En} {σ : L2.St}
theorem PostG.shift {vs : List Nat} {o : Out En} {Q : L2.St → Hp → Prop} (sm : Same F H) (s : Step F β H F1 β1 H1) (p : PostG K vs σ F β H o Q) : PostG K vs σ F1 β1 H1 o Q := by
  cases o with
  | ok r h' => exact fun F' β' H' σ' sm' s' g' se kk => p F' β' H' σ' sm' (Step.trans sm s s') g' se kk
  | er e h => exact p
  | no => exact p
theorem SimE.set {i : Nat} {d : D} {v : V} (s : SimE K F β en σ) (r : VR K F β d v) : SimE K F β (en.set i (some d)) (σ.set i (some v)) := by
  refine ⟨by rw [List.length_set, List.length_set]; exact s.len, fun j x e => ?_⟩
  by_cases hj : j = i
  · subst hj
    by_cases hl : j < en.length
    · rw [List.getElem?_set_self hl] at e
      cases e
      exact ⟨v, by rw [List.getElem?_set_self (by rw [← s.len]; exact hl)], r⟩
    · rw [List.getElem?_eq_none (by rw [List.length_set]; omega)] at e; cases e
  · rw [List.getElem?_set_ne (Ne.symm hj)] at e
    obtain ⟨w, q1, q2⟩ := s.at_ j x e
    exact ⟨w, by rw [List.getElem?_set_ne (Ne.symm hj)]; exact q1, q2⟩
theorem SimE.wipe : ∀ {vs : List Nat}, SimE K F β en σ → SimE K F β (wipeE en vs) (wipe σ vs)
  | [], s => s
  | v :: vs, s => by
    have ih := SimE.wipe (vs := vs) s
    unfold wipeE L2.wipe
    refine ⟨by rw [List.length_set, List.length_set]; exact ih.len, fun j x e => ?_⟩
    by_cases hj : j = v
    · subst hj
      by_cases hl : j < (wipeE en vs).length
      · rw [List.getElem?_set_self hl] at e; cases e
      · rw [List.getElem?_eq_none (by rw [List.length_set]; omega)] at e; cases e
    · rw [List.getElem?_set_ne (Ne.symm hj)] at e
      obtain ⟨w, q1, q2⟩ := ih.at_ j x e
      exact ⟨w, by rw [List.getElem?_set_ne (Ne.symm hj)]; exact q1, q2⟩
end
section
variable {X : Cx} {pos p p2 : Pos} {x : Str} {e e2 o i : Expr} {es : List Expr} {d d2 dO dI' : Den} {g : DenT} {gs : DenTs} {vs : List Nat}
theorem pg_Nm {i : Nat} (hv : i ∈ vs) (hN : X.N.Nodup) (hi : X.N[i]? = some x) (hx : Loc X.env.scope x) (hf : X.fn x = true ∨ X.env.scope.names.lookup x = some .local) : PG X (.Name x pos) (tG X.K vs (kNm i)) := by
  refine PG_weak (pg_name hN hi hx hf) fun v σ H Q ⟨F, β, h, F0, β0, H₀, en, r, sm0, st, sm, gd, se, rr, post⟩ => ?_
  unfold kNm at post
  split at post
  case isFalse => exact post.elim
  obtain ⟨F2, k1, k2, k3, k4, _⟩ := freeze1 sm0 st sm gd rr
  have x2 : Ext F β F2 β := ⟨fun _ _ z => z, fun b o z m => ⟨k1 b o z, m⟩⟩
  exact post F2 β H _ k2 k3 (gd.more k1) ((se.ext x2).set k4) ⟨by rw [List.length_set], fun j hj => by rw [List.getElem?_set_ne]; exact fun e => hj (e ▸ hv)⟩
theorem pgs_Nil : PGs X [] (tGs X.K vs kTnil) := by
  refine ⟨fun pins s σ H ws us Q I r ⟨F, β, h, en, ds, sm, gd, se, w, post⟩ => ?_⟩
  unfold kTnil at post
  split at post
  · cases w
    exact pgs_nil.run pins s σ H [] us Q I r ⟨rfl, post F β H σ sm .refl gd se .refl⟩
  · exact post.elim
theorem pgs_Cons {t : Expr} {ts : List Expr} (h1 : PG X t (tG X.K vs g)) (h2 : PGs X ts (tGs X.K vs gs)) (hs : isStar t = false) : PGs X (t :: ts) (tGs X.K vs (kTcons g gs)) := by
  have ha : (assignEach (t :: ts) X.env).map (·.2) = assign t X.env :: (assignEach ts X.env).map (·.2) := by cases t <;> first | rfl | cases hs
  refine ⟨fun pins s σ H ws us Q I r ⟨F, β, h, en, ds, sm, gd, se, w, post⟩ => ?_⟩
  unfold kTcons at post
  split at post
  case h_2 => exact post.elim
  rename_i d ds
  obtain ⟨v, vr, rfl, w1, w2⟩ := w
  refine (pgs_cons h1 h2 ha).run pins s σ H _ us Q I r ⟨v, vr, rfl, F, β, h, F, β, H, en, .d d, sm, .refl, sm, gd, se, w1, ?_⟩
  cases hg : g en (.d d) h with
  | er e h => rw [hg] at post; exact post
  | no => rw [hg] at post; exact post
  | ok en1 h1 =>
    rw [hg] at post
    intro F1 β1 H1 σ1 sm1 st1 gd1 se1 kk1
    refine ⟨F1, β1, h1, en1, ds, sm1, gd1, se1, VRs.ext st1.ext _ _ w2, ?_⟩
    replace post : PostG X.K vs σ F β H (gs en1 ds h1) Q := post
    cases hgs : gs en1 ds h1 with
    | er e h => rw [hgs] at post; exact post
    | no => rw [hgs] at post; exact post
    | ok en2 h2 =>
      rw [hgs] at post
      exact fun F' β' H' σ' sm' s' g' se' kk => post F' β' H' σ' sm' (Step.trans sm st1 s') g' se' (kk1.trans kk)
theorem tlen {gs : DenTs} {n : Nat} (hn : ∀ en ds h en' h', gs en ds h = .ok en' h' → ds.length = n) {en : En} {ds : List D} {h : Hh} {K : Kf} {F H : Hp} {β : List Addr} {σ : L2.St} {Q : L2.St → Hp → Prop} (p : PostG K vs σ F β H (gs en ds h) Q) : ds.length = n :=
  by
    cases hg : gs en ds h with
    | ok en' h' => exact hn en ds h en' h' hg
    | er e h => rw [hg] at p; exact p.elim
    | no => rw [hg] at p; exact p.elim
theorem PG_or {e : Expr} {t t' : TG} (h : PG X e t) (h' : PG X e t') : PG X e (fun v σ H Q => t v σ H Q ∨ t' v σ H Q) := ⟨fun pins s σ H v u Q I r q => by
  rcases q with q | q
  · exact h.run pins s σ H v u Q I r q
  · exact h'.run pins s σ H v u Q I r q⟩
theorem pg_Tp {ts : List Expr} {k n : Nat} (hc : X.calm = true) (h : PGs X ts (tGs X.K vs gs)) (hs : ts.all (fun e => !isStar e) = true) (hn : ts.length = n) (hl : ∀ en ds h en' h', gs en ds h = .ok en' h' → ds.length = n) : PG X (.Tuple ts k pos) (tG X.K vs (kTp gs)) := by
  have a1 : ∀ ts : List Expr, ts.all (fun e => !isStar e) = true → (assignEach ts X.env).length = ts.length ∧ (assignEach ts X.env).findIdx? (·.1) = none := fun ts => by
    induction ts with
    | nil => exact fun _ => ⟨rfl, rfl⟩
    | cons t r ih =>
      intro hs
      rw [List.all_cons, Bool.and_eq_true] at hs
      obtain ⟨i1, i2⟩ := ih hs.2
      have e1 : assignEach (t :: r) X.env = (false, assign t X.env) :: assignEach r X.env := by
        have := hs.1
        cases t <;> first | rfl | simp [isStar] at this
      rw [e1]
      refine ⟨by rw [List.length_cons, List.length_cons, i1], ?_⟩
      rw [List.findIdx?_cons]
      simp [i2]
  obtain ⟨b1, b2⟩ := a1 ts hs
  refine PG_weak (PG_or (pg_tup (n := n) hc h (b1.trans hn) b2) (pg_lst (n := n) hc h (b1.trans hn) b2)) fun v σ H Q ⟨F, β, h, F0, β0, H₀, en, r, sm0, st, sm, gd, se, rr, post⟩ => ?_
  unfold kTp at post
  split at post
  case h_2 => exact post.elim
  rename_i ds hd
  obtain ⟨a, ws, rfl, q, w⟩ := viewS_of sm gd rr.rv hd
  rcases q with q | q
  · exact .inr ⟨a, ws, rfl, q, by rw [w.len]; exact tlen hl post, F, β, h, en, ds, sm, gd, se, w, PostG.shift sm0 st post⟩
  · exact .inl ⟨a, ws, rfl, q, by rw [w.len]; exact tlen hl post, F, β, h, en, ds, sm, gd, se, w, PostG.shift sm0 st post⟩
theorem lowAll_set {n : Nat} {r : D} (hlow : lowD n r = true) : ∀ (l : List D) (j : Nat), lowAll n l = true → lowAll n (l.set j r) = true := fun l => by
  induction l with
  | nil => intro j h; simpa using h
  | cons y l ih =>
    intro j h
    unfold lowAll at h
    rw [Bool.and_eq_true] at h
    cases j with
    | zero => show (lowD n r && lowAll n l) = true; rw [hlow, h.2]; rfl
    | succ j => show (lowD n y && lowAll n (l.set j r)) = true; rw [h.1, ih j h.2]; rfl
def rSetLD : TSet := fun o i v H Q => rSetL o i v H Q ∨ rSetD o i v H Q
theorem set_ld (hu : X.A.units + 1 < cLine) : PSet X rSetLD := by
  intro pins s σ H o i v ov iv u Q I ro ri rv h
  rcases h with h | h
  · exact set_list pins s σ H o i v ov iv u Q I ro ri rv h
  · exact set_dict hu pins s σ H o i v ov iv u Q I ro ri rv h
theorem pg_Sb (hu : X.A.units + 1 < cLine) (ho : PE X o (tD X.K dO)) (hi : PE X i (tD X.K dI')) (ha : ∀ v, assign (.Subscript o i pos) X.env v = (do
      let ov ← holding [v] (eval o X.env)
      let iv ← holding [v, ov] (eval i X.env)
      standAt pos
      holding [v, ov, iv] (setItem ov iv v)
      release [v, ov, iv] [])) : PG X (.Subscript o i pos) (tG X.K vs (kSb dO dI')) := by
  refine PG_weak (pg_sub ho hi (set_ld hu) ha) fun v σ H Q ⟨F, β, h, F0, β0, H₀, en, r, sm0, st, sm, gd, se, rr, post⟩ => ?_
  obtain ⟨F2, k1, k2, k3, k4, _⟩ := freeze1 sm0 st sm gd rr
  have x2 : Ext F β F2 β := ⟨fun _ _ z => z, fun b o z m => ⟨k1 b o z, m⟩⟩
  have gd2 := gd.more k1
  replace post := PostG.shift sm0 k3 post
  unfold kSb at post
  refine ⟨F2, β, h, en, k2, gd2, se.ext x2, ?_⟩
  cases hd : dO en h with
  | er e h => rw [hd] at post; exact post
  | no => rw [hd] at post; exact post
  | ok ro h1 =>
  rw [hd] at post
  intro vo F3 β3 H3 sm3 st3 gd3 rr3
  replace post : PostG X.K vs σ F2 β H ((dI' en h1).bind fun y h => sbOut r.toD en ro y h) Q := post
  refine ⟨F3, β3, h1, en, sm3, gd3, (se.ext x2).ext st3.ext, ?_⟩
  cases hd2 : dI' en h1 with
  | er e h => rw [hd2] at post; exact post
  | no => rw [hd2] at post; exact post
  | ok ri h2 =>
  rw [hd2] at post
  intro vi F4 β4 H4 sm4 st4 gd4 rr4
  replace post : PostG X.K vs σ F2 β H (sbOut r.toD en ro ri h2) Q := post
  unfold sbOut at post
  split at post
  case h_2 => exact post.elim
  rename_i n
  obtain ⟨a, ea, rfl⟩ := rr3
  have ea4 : β4[n]? = some a := st4.ext.pre n a ea
  have kv := VR.ext st4.ext _ _ (VR.ext st3.ext _ _ k4)
  unfold setAt at post
  split at post
  · rename_i ds hn
    split at post
    case h_2 => exact post.elim
    rename_i kk
    split at post
    case h_2 => exact post.elim
    rename_i j hj
    split at post
    case isFalse => exact post.elim
    rename_i hlow
    cases (show vi = .int kk from rr4)
    obtain ⟨xs, f, w, lo⟩ := gd4.at_ ea4 hn
    have lo2 : lowAll n (ds.set j r.toD) = true := lowAll_set hlow ds j lo
    obtain ⟨c1, c2, c3, c4⟩ := change k2 (Step.trans k2 st3 st4) sm4 gd4 ea4 f (VRs.set kv j w) lo2
    refine .inl ⟨a, xs, kk, j, rfl, rfl, sm4 _ _ f, by rw [w.len]; exact hj, ?_⟩
    exact post _ _ _ σ c1 c2 c3 ((((se.ext x2).ext st3.ext).ext st4.ext).ext c4) .refl
  · rename_i l ds hn
    split at post
    case h_2 => exact post.elim
    rename_i kk hk
    split at post
    case isFalse => exact post.elim
    rename_i hlow
    cases keyK_of rr4.rv hk
    obtain ⟨xs, f, w, lo, z⟩ := gd4.ob _ _ _ ea4 hn
    have f : F4 a = some (.dK (l.zip xs)) := f
    have z : l.length = ds.length := z
    have lz : (l.zip xs).length < sizeLine := by rw [List.length_zip, w.len, z]; omega
    obtain ⟨vs', p1, p2, p3⟩ := putZ_ok kk w z kv
    obtain ⟨c1, c2, c3, c4⟩ := changeD k2 (Step.trans k2 st3 st4) sm4 gd4 ea4 ⟨_, f⟩ (ks := .k (putZ l ds kk r.toD).1) p2 (lowAll_put hlow.1 kk lo) p3
    refine .inr ⟨a, _, rfl, DPut.k (k := kk) (sm4 _ _ f) lz, ?_⟩
    rw [p1]
    exact post _ _ _ σ c1 c2 c3 ((((se.ext x2).ext st3.ext).ext st4.ext).ext c4) .refl
  · exact post.elim
end
end MP
end

section
set_option Elab.async false
set_option linter.all false
set_option maxRecDepth 100000
set_option maxHeartbeats 4000000
namespace MP
open PySem PySem.Spec L2 PyProof.Rows
/-! ### statements -/
def PostS (K : Kf) (F : Hp) (β : List Addr) (H : Hp) (o : Out Fl) (D : Ends) : Prop := match o with
  | .ok (.nx en') h' => ∀ F' β' H' σ', Same F' H' → Step F β H F' β' H' → Good K F' β' h' → SimE K F' β' en' σ' → D.nx σ' H'
  | .ok (.rt r) h' => ∀ v F' β' H', Same F' H' → Step F β H F' β' H' → Good K F' β' h' → RR K F' β' H H' r v → D.rt v H'
  | _ => False
def tS (K : Kf) (d : DenS) : TS := fun D σ H => ∃ F β h en, Same F H ∧ Good K F β h ∧ SimE K F β en σ ∧ PostS K F β H (d en h) D
section
variable {K : Kf} {F F' H H' F1 H1 : Hp} {β β' β1 : List Addr} {h : Hh} {en : En} {σ : L2.St}
theorem PostS.shift {o : Out Fl} {D : Ends} (sm : Same F H) (s : Step F β H F1 β1 H1) (sm1 : Same F1 H1) (p : PostS K F β H o D) : PostS K F1 β1 H1 o D := by
  match o, p with
  | .ok (.nx en') h', p => exact fun F' β' H' σ' sm' s' g' se => p F' β' H' σ' sm' (Step.trans sm s s') g' se
  | .ok (.rt r) h', p => exact fun v F' β' H' sm' s' g' rr => p v F' β' H' sm' (Step.trans sm s s') g' (rr.back sm s sm1)
theorem bindS {a : Den} {f : R → Hh → Out Fl} {D : Ends} {k : V → Hp → Prop} (sm : Same F H) (gd : Good K F β h) (se : SimE K F β en σ) (post : PostS K F β H ((a en h).bind f) D)
    (hk : ∀ r v F1 β1 H1 h1, Same F1 H1 → Step F β H F1 β1 H1 → Good K F1 β1 h1 → SimE K F1 β1 en σ → RR K F1 β1 H H1 r v → PostS K F β H (f r h1) D → k v H1) : tD K a σ H k := by
  refine ⟨F, β, h, en, sm, gd, se, ?_⟩
  cases ha : a en h with
  | ok r h1 =>
    rw [ha] at post
    exact fun v F1 β1 H1 sm1 s1 g1 rr => hk r v F1 β1 H1 h1 sm1 s1 g1 (se.ext s1.ext) rr post
  | er e h1 => rw [ha] at post; exact post
  | no => rw [ha] at post; exact post
theorem bindTS {a : Den} {f : Bool → Hh → Out Fl} {D : Ends} {k : Bool → Hp → Prop} (sm : Same F H) (gd : Good K F β h) (se : SimE K F β en σ) (post : PostS K F β H ((kTest a en h).bind f) D)
    (hk : ∀ b F1 β1 H1 h1, Same F1 H1 → Step F β H F1 β1 H1 → Good K F1 β1 h1 → SimE K F1 β1 en σ → PostS K F1 β1 H1 (f b h1) D → k b H1) : tT K a σ H k :=
  bindT (P := fun F β H o => PostS K F β H o D) sm gd se post (fun z => z) (fun _ _ z => z) (fun _ _ _ _ s sm1 p => p.shift sm s sm1) hk
end
section
variable {X : Cx} {pos p p2 : Pos} {x : Str} {e e2 tg iter : Expr} {es : List Expr} {d d2 dt : Den} {g : DenT} {it : DenI} {sd sd2 : DenS} {vs : List Nat} {st : Stmt} {body sts a b : List Stmt}
theorem asg_weak : ∀ D σ H, tS X.K (kAsg g d) D σ H → tAsg (tD X.K d) (tG X.K vs g) D σ H := fun D σ H ⟨F, β, h, en, sm, gd, se, post⟩ => by
  refine bindS sm gd se post fun r v F1 β1 H1 h1 sm1 st1 gd1 se1 rr1 post1 => ⟨F1, β1, h1, F, β, H, en, r, sm, st1, sm1, gd1, se1, rr1, ?_⟩
  cases hg : g en r h1 with
  | er e h => rw [hg] at post1; exact post1
  | no => rw [hg] at post1; exact post1
  | ok en1 h2 =>
    rw [hg] at post1
    exact fun F' β' H' σ' sm' s' g' se' _ => post1 F' β' H' σ' sm' s' g' se'
theorem ps_Asg (he : PE X e (tD X.K d)) (hg : PG X tg (tG X.K vs g)) (hs : swapsWithSole [tg] e pos.line X.env = pure false) (hw : swappedStores [tg] e X.env = pure none) (hst : isStar tg = false) : PS X (.Assign [tg] e pos) (tS X.K (kAsg g d)) :=
  PS_weak (ps_asg he hg hs hw (by cases tg <;> first | rfl | cases hst)) asg_weak
theorem two_eq {i j : Nat} (en : En) (ds : List D) (h : Hh) : kTcons (kNm i) (kTcons (kNm j) kTnil) en ds h = .no ∨ ∃ a b, ds = [a, b] ∧ kTcons (kNm i) (kTcons (kNm j) kTnil) en ds h = .ok ((en.set i (some a)).set j (some b)) h := by
  match ds with
  | [] => exact .inl rfl
  | [a] =>
    by_cases hi : i < en.length
    · left; simp [kTcons, kNm, hi, Out.bind]
    · left; simp [kTcons, kNm, hi, Out.bind]
  | a :: b :: r =>
    by_cases hi : i < en.length
    · by_cases hj : j < en.length
      · cases r with
        | nil => right; exact ⟨a, b, rfl, by simp [kTcons, kNm, hi, hj, Out.bind, kTnil, R.toD]⟩
        | cons c r => left; simp [kTcons, kNm, hi, hj, Out.bind, kTnil, R.toD]
      · left; simp [kTcons, kNm, hi, hj, Out.bind, kTnil]
    · left; simp [kTcons, kNm, hi, Out.bind]
theorem three_eq {i j l : Nat} (en : En) (ds : List D) (h : Hh) : kTcons (kNm i) (kTcons (kNm j) (kTcons (kNm l) kTnil)) en ds h = .no ∨ ∃ a b c, ds = [a, b, c] ∧ kTcons (kNm i) (kTcons (kNm j) (kTcons (kNm l) kTnil)) en ds h = .ok (((en.set i (some a)).set j (some b)).set l (some c)) h := by
  cases ds with
  | nil => exact .inl rfl
  | cons a ds =>
    by_cases hi : i < en.length
    · have e : kTcons (kNm i) (kTcons (kNm j) (kTcons (kNm l) kTnil)) en (a :: ds) h = kTcons (kNm j) (kTcons (kNm l) kTnil) (en.set i (some a)) ds h := by simp [kTcons, kNm, hi, Out.bind, R.toD]
      rw [e]
      rcases two_eq (i := j) (j := l) (en.set i (some a)) ds h with q | ⟨b, c, rfl, q⟩
      · exact .inl q
      · exact .inr ⟨a, b, c, rfl, q⟩
    · left; simp [kTcons, kNm, hi, Out.bind]
theorem par_weak {da : DenL} {i j : Nat} : ∀ D σ H, tS X.K (kAsg (kTp (kTcons (kNm i) (kTcons (kNm j) kTnil))) (kTup da)) D σ H → tPar i j (tL X.K da) D σ H := fun D σ H ⟨F, β, h, en, sm, gd, se, post⟩ => by
  refine ⟨F, β, h, en, sm, gd, se, ?_⟩
  unfold kAsg kTup at post
  cases hd : da en h with
  | er e h => rw [hd] at post; exact post
  | no => rw [hd] at post; exact post
  | ok rs h1 =>
  rw [hd] at post
  intro us F1 β1 H1 sm1 st1 gd1 rr1 nd1
  obtain ⟨F2, k1, k2, k3, k4⟩ := freezeAll sm st1 sm1 gd1 rr1 nd1
  simp only at post
  split at post
  case isFalse => exact post.elim
  replace post : PostS X.K F β H ((kTcons (kNm i) (kTcons (kNm j) kTnil) en (rs.map R.toD) h1).bind fun en h => .ok (.nx en) h) D := post
  have x2 : Ext F1 β1 F2 β1 := ⟨fun _ _ z => z, fun b o z m => ⟨k1 b o z, m⟩⟩
  have se2 := (se.ext st1.ext).ext x2
  rcases two_eq (i := i) (j := j) en (rs.map R.toD) h1 with q | ⟨a, b, ea, q⟩
  · rw [q] at post; exact post.elim
  · rw [q] at post
    rw [ea] at k4
    obtain ⟨v1, _, rfl, w1, v2, _, rfl, w2, rfl⟩ := k4
    exact ⟨v1, v2, rfl, post F2 β1 H1 _ k2 k3 (gd1.more k1) ((se2.set w1).set w2)⟩
theorem par3_weak {da : DenL} {i j l : Nat} : ∀ D σ H, tS X.K (kAsg (kTp (kTcons (kNm i) (kTcons (kNm j) (kTcons (kNm l) kTnil)))) (kTup da)) D σ H → tPar3 i j l (tL X.K da) D σ H := fun D σ H ⟨F, β, h, en, sm, gd, se, post⟩ => by
  refine ⟨F, β, h, en, sm, gd, se, ?_⟩
  unfold kAsg kTup at post
  cases hd : da en h with
  | er e h => rw [hd] at post; exact post
  | no => rw [hd] at post; exact post
  | ok rs h1 =>
  rw [hd] at post
  intro us F1 β1 H1 sm1 st1 gd1 rr1 nd1
  obtain ⟨F2, k1, k2, k3, k4⟩ := freezeAll sm st1 sm1 gd1 rr1 nd1
  simp only at post
  split at post
  case isFalse => exact post.elim
  replace post : PostS X.K F β H ((kTcons (kNm i) (kTcons (kNm j) (kTcons (kNm l) kTnil)) en (rs.map R.toD) h1).bind fun en h => .ok (.nx en) h) D := post
  have x2 : Ext F1 β1 F2 β1 := ⟨fun _ _ z => z, fun b o z m => ⟨k1 b o z, m⟩⟩
  have se2 := (se.ext st1.ext).ext x2
  rcases three_eq (i := i) (j := j) (l := l) en (rs.map R.toD) h1 with q | ⟨a, b, c, ea, q⟩
  · rw [q] at post; exact post.elim
  · rw [q] at post
    rw [ea] at k4
    obtain ⟨v1, _, rfl, w1, v2, _, rfl, w2, v3, _, rfl, w3, rfl⟩ := k4
    exact ⟨v1, v2, v3, rfl, post F2 β1 H1 _ k2 k3 (gd1.more k1) (((se2.set w1).set w2).set w3)⟩
theorem ps_Exp (he : PE X e (tD X.K d)) (hs : swapsWith e none pos.line X.env = pure false) : PS X (.Expr e pos) (tS X.K (kExp d)) :=
  PS_weak (ps_expr he hs) fun D σ H ⟨F, β, h, en, sm, gd, se, post⟩ => bindS sm gd se post fun r v F1 β1 H1 h1 sm1 st1 gd1 se1 rr1 post1 => post1 F1 β1 H1 σ sm1 st1 gd1 se1
theorem ps_Ret (he : PE X e (tD X.K d)) : PS X (.Return (some e) pos) (tS X.K (kRet d)) :=
  PS_weak (ps_ret he) fun D σ H ⟨F, β, h, en, sm, gd, se, post⟩ => bindS sm gd se post fun r v F1 β1 H1 h1 sm1 st1 gd1 se1 rr1 post1 => post1 v F1 β1 H1 sm1 st1 gd1 rr1
theorem ps_RetN : PS X (.Return none pos) (tS X.K (kRet (kC .non))) :=
  PS_weak ps_retN fun D σ H ⟨F, β, h, en, sm, gd, se, post⟩ => post .non F β H sm .refl gd rfl
theorem ps_Pass : PS X (.Pass pos) (tS X.K kPass) := PS_weak ps_pass fun D σ H ⟨F, β, h, en, sm, gd, se, post⟩ => post F β H σ sm .refl gd se
theorem ps_Raise : PS X st (tS X.K kRaise) := PS_weak ps_never fun D σ H ⟨F, β, h, en, sm, gd, se, post⟩ => post
theorem iteS_eq {en : En} {h : Hh} : kIteS dt sd sd2 en h = (kTest dt en h).bind fun b h => match b with | true => sd en h | false => sd2 en h := by
  unfold kTest kIteS
  rw [out_bind_assoc]
  congr 1
  funext x h1
  cases e : truth h1 x with
  | none => rfl
  | some b => cases b <;> rfl
theorem ps_Ite (hc : PT X e (tT X.K dt)) (ha : PSs X a (tS X.K sd)) (hb : PSs X b (tS X.K sd2)) : PS X (.If e a b pos) (tS X.K (kIteS dt sd sd2)) := by
  refine PS_weak (ps_if hc ha hb) fun D σ H ⟨F, β, h, en, sm, gd, se, post⟩ => ?_
  rw [iteS_eq] at post
  refine bindTS sm gd se post fun k F1 β1 H1 h1 sm1 st1 gd1 se1 post1 => ?_
  cases k with
  | true => rw [if_pos rfl]; exact ⟨F1, β1, h1, en, sm1, gd1, se1, post1⟩
  | false => rw [if_neg (by decide)]; exact ⟨F1, β1, h1, en, sm1, gd1, se1, post1⟩
theorem pss_Nil : PSs X [] (tS X.K kPass) := PSs_weak pss_nil fun D σ H ⟨F, β, h, en, sm, gd, se, post⟩ => post F β H σ sm .refl gd se
theorem pss_Cons (h1 : PS X st (tS X.K sd)) (h2 : PSs X sts (tS X.K sd2)) : PSs X (st :: sts) (tS X.K (kSeq sd sd2)) := by
  refine PSs_weak (pss_cons h1 h2) fun D σ H ⟨F, β, h, en, sm, gd, se, post⟩ => ⟨F, β, h, en, sm, gd, se, ?_⟩
  unfold kSeq at post
  cases hd : sd en h with
  | er e h => rw [hd] at post; exact post
  | no => rw [hd] at post; exact post
  | ok f h1 =>
    rw [hd] at post
    cases f with
    | nx en1 => exact fun F1 β1 H1 σ1 sm1 st1 gd1 se1 => ⟨F1, β1, h1, en1, sm1, gd1, se1, PostS.shift sm st1 sm1 post⟩
    | rt r => exact post
end
end MP
end

section
set_option Elab.async false
set_option linter.all false
set_option maxRecDepth 100000
set_option maxHeartbeats 4000000
namespace MP
open PySem PySem.Spec L2 PyProof.Rows
section
variable {X : Cx} {pos p p2 spos : Pos} {x : Str} {e e2 tg iter elt c : Expr} {es ifs : List Expr} {d d2 dt de : Den} {g : DenT} {it : DenI} {sd : DenS} {vs : List Nat} {body : List Stmt} {di : En → Hh → Out Bool}
theorem ps_While (hp : PassesOwn (model X.prog X.w) X.A X.env X.xe) (hc : PT X c (tT X.K dt)) (hb : PSs X body (tS X.K sd)) : PS X (.While c body [] pos) (tS X.K (kWhile dt sd)) := by
  refine PS_weak (ps_while hp hc hb) fun D σ H ⟨F, β, h, en, sm, gd, se, post⟩ => ?_
  refine ⟨fun m σ' H' => ∃ F' β' h' en', Same F' H' ∧ Step F β H F' β' H' ∧ Good X.K F' β' h' ∧ SimE X.K F' β' en' σ' ∧ PostS X.K F β H (whileLoop (kTest dt) sd m en' h') D, ⟨FUEL, F, β, h, en, sm, .refl, gd, se, post⟩, ?_⟩
  rintro m σ1 H1 ⟨F1, β1, h1, en1, sm1, st1, gd1, se1, post1⟩
  cases m with
  | zero => exact post1.elim
  | succ m =>
  unfold whileLoop at post1
  refine ⟨F1, β1, h1, en1, sm1, gd1, se1, ?_⟩
  cases ht : kTest dt en1 h1 with
  | er e h => rw [ht] at post1; exact post1.elim
  | no => rw [ht] at post1; exact post1.elim
  | ok b h2 =>
  rw [ht] at post1
  intro F2 β2 H2 sm2 st2 gd2
  have st := Step.trans sm st1 st2
  have se2 := se1.ext st2.ext
  cases b with
  | false =>
    rw [if_neg (by decide)]
    exact post1 F2 β2 H2 σ1 sm2 st gd2 se2
  | true =>
    rw [if_pos rfl]
    simp only at post1
    refine ⟨fun σ' H' => ∃ F' β' h' en', Same F' H' ∧ Step F β H F' β' H' ∧ Good X.K F' β' h' ∧ SimE X.K F' β' en' σ' ∧ PostS X.K F β H (whileLoop (kTest dt) sd m en' h') D, fun σ' H' w => ⟨m, Nat.lt_succ_self m, w⟩, F2, β2, h2, en1, sm2, gd2, se2, ?_⟩
    cases hs : sd en1 h2 with
    | er e h => rw [hs] at post1; exact post1.elim
    | no => rw [hs] at post1; exact post1.elim
    | ok f h3 =>
      rw [hs] at post1
      cases f with
      | nx en3 => exact fun F3 β3 H3 σ3 sm3 st3 gd3 se3 => ⟨F3, β3, h3, en3, sm3, Step.trans sm st st3, gd3, se3, post1⟩
      | rt r => exact fun v F3 β3 H3 sm3 st3 gd3 rr3 => post1 v F3 β3 H3 sm3 (Step.trans sm st st3) gd3 (rr3.back sm st sm2)
theorem ps_For (hp : PassesOwn (model X.prog X.w) X.A X.env X.xe) (hc : X.calm = true) (hi : PI X tg iter (tI X.K it)) (hg : PG X tg (tG X.K vs g)) (hb : PSs X body (tS X.K sd)) (hs : ∀ x, foldedSetIterable iter X.env x = pure x) : PS X (.For tg iter body [] pos) (tS X.K (kFor g it sd)) := by
  refine PS_weak (ps_for hp hc hi hg hb hs) fun D σ H ⟨F, β, h, en, sm, gd, se, post⟩ => ⟨F, β, h, en, sm, gd, se, ?_⟩
  unfold kFor at post
  cases hit : it en h with
  | er e h => rw [hit] at post; exact post
  | no => rw [hit] at post; exact post
  | ok c0 h1 =>
  rw [hit] at post
  intro J F1 β1 H1 sm1 st1 gd1 ci1
  refine ⟨fun i m σ' H' => ∃ F' β' h' en' c', Same F' H' ∧ Step F β H F' β' H' ∧ Good X.K F' β' h' ∧ SimE X.K F' β' en' σ' ∧ CI X.K J i c' F' β' ∧ PostS X.K F β H (forLoop (fun d en h => (g en (.d d) h).bind fun en h => sd en h) m c' en' h') D, ⟨FUEL, F1, β1, h1, en, c0, sm1, st1, gd1, se.ext st1.ext, ci1, post⟩, ?_⟩
  rintro i m σ2 H2 ⟨F2, β2, h2, en2, c2, sm2, st2, gd2, se2, ci2, post2⟩
  cases m with
  | zero => exact post2.elim
  | succ m =>
  unfold forLoop at post2
  have z := ci2.now sm2 gd2
  cases hn : next c2 h2 with
  | stuck => rw [hn] at post2; exact post2.elim
  | stop =>
    rw [hn] at post2 z
    exact .inl ⟨z, post2 F2 β2 H2 σ2 sm2 st2 gd2 se2⟩
  | it d c3 =>
    rw [hn] at post2 z
    simp only at post2
    refine .inr ⟨z.1, fun σ' H' => ∃ F' β' h' en' c', Same F' H' ∧ Step F β H F' β' H' ∧ Good X.K F' β' h' ∧ SimE X.K F' β' en' σ' ∧ CI X.K J (i + 1) c' F' β' ∧ PostS X.K F β H (forLoop (fun d en h => (g en (.d d) h).bind fun en h => sd en h) m c' en' h') D, fun σ' H' w => ⟨m, Nat.lt_succ_self m, w⟩, fun x H3 y => ?_⟩
    obtain ⟨F3, ps3, r3, ci3⟩ := z.2 x H3 y
    have st3 := Step.trans sm st2 (ps3.step (β := β2))
    refine ⟨F3, β2, h2, F3, β2, H3, en2, .d d, ps3.sm, .refl, ps3.sm, gd2.more ps3.ff, se2.ext ps3.extb, r3, ?_⟩
    cases hg : g en2 (.d d) h2 with
    | er e h => rw [hg] at post2; exact post2.elim
    | no => rw [hg] at post2; exact post2.elim
    | ok en4 h4 =>
    rw [hg] at post2
    intro F4 β4 H4 σ4 sm4 st4 gd4 se4 _
    refine ⟨F4, β4, h4, en4, sm4, gd4, se4, ?_⟩
    simp only [Out.bind] at post2
    have st4' := Step.trans sm st3 st4
    cases hs : sd en4 h4 with
    | er e h => rw [hs] at post2; exact post2.elim
    | no => rw [hs] at post2; exact post2.elim
    | ok f h5 =>
      rw [hs] at post2
      cases f with
      | nx en5 => exact fun F5 β5 H5 σ5 sm5 st5 gd5 se5 => ⟨F5, β5, h5, en5, c3, sm5, Step.trans sm st4' st5, gd5, se5, (ci3.ext st4.ext).ext st5.ext, post2⟩
      | rt r => exact fun v F5 β5 H5 sm5 st5 gd5 rr5 => post2 v F5 β5 H5 sm5 (Step.trans sm st4' st5) gd5 (rr5.back sm st4' sm4)
/-! ### comprehensions -/
def tTs (K : Kf) (d : En → Hh → Out Bool) : TT := fun σ H Q => ∃ F β h en, Same F H ∧ Good K F β h ∧ SimE K F β en σ ∧ PostB K F β H (d en h) Q
theorem pts_Nil : PTs X [] (tTs X.K kYes) := ⟨fun pins s σ H Q I ⟨F, β, h, en, sm, gd, se, post⟩ => pts_nil.run pins s σ H Q I (post F β H sm .refl gd)⟩
theorem if_one {en : En} {h : Hh} : kIf d kYes en h = kTest d en h := by
  unfold kIf kTest kYes
  congr 1
  funext x h1
  cases e : truth h1 x with
  | none => rfl
  | some b => cases b <;> rfl
theorem pts_One (hc : PT X c (tT X.K d)) : PTs X [c] (tTs X.K (kIf d kYes)) := ⟨fun pins s σ H Q I ⟨F, β, h, en, sm, gd, se, post⟩ => (pts_one hc).run pins s σ H Q I ⟨F, β, h, en, sm, gd, se, by rw [if_one] at post; exact post⟩⟩
theorem hid_upd {F F' H H' : Hp} {β β' : List Addr} {D : Addr} {o : HO} (st : Step F β H F' β' H') (n : H D = none) : Step F β H F' β' (upd H' D o) :=
  ⟨st.gm, st.kp, fun a u f q => ⟨(st.hid a u f q).1, by rw [upd_ne (ne_of_none q n)]; exact (st.hid a u f q).2⟩⟩
theorem sm_hid {F H : Hp} {D : Addr} {o : HO} (sm : Same F H) (n : F D = none) : Same F (upd H D o) := fun a u q => by
  rw [upd_ne (ne_of_none q n)]; exact sm a u q
theorem fuel_line : FUEL ≤ sizeLine := by rw [sizeLine_eq]; unfold FUEL; omega
theorem lc_weak {own : List Nat} {σ : L2.St} {H : Hp} {Q : VK} (hv : ∀ j ∈ vs, j ∈ own) (h0 : tD X.K (kLc de g it di own) σ H Q) : tLc (tI X.K it) (tG X.K vs g) (tTs X.K di) (tD X.K de) own σ H Q := by
  obtain ⟨F, β, h, en, sm, gd, se, post⟩ := h0
  refine ⟨F, β, h, en, sm, gd, se, ?_⟩
  unfold kLc at post
  cases hit : it en h with
  | er e h => rw [hit] at post; exact post
  | no => rw [hit] at post; exact post
  | ok c0 h1 =>
  rw [hit] at post
  intro J F1 β1 H1 sm1 st1 gd1 ci1 D nD
  have nD0 : H D = none := none_back sm st1 sm1 nD
  have nDF : F1 D = none := sm_none sm1 nD
  let W : Nat → Nat → Hp → Prop := fun i m H' => ∃ F' β' h' c' accD acc, Same F' H' ∧ Step F β H F' β' H' ∧ Good X.K F' β' h' ∧ SimE X.K F' β' en σ ∧ CI X.K J i c' F' β' ∧ F' D = none ∧ H' D = some (.lst acc) ∧ VRs X.K F' β' accD.reverse acc ∧ acc.length + m ≤ FUEL ∧
    PostE X.K F β H ((lcLoop (kTurn de g di (wipeE en own)) m c' accD h').bind fun ds h => .ok (.fl ds) h) Q
  refine ⟨W, ⟨FUEL, F1, β1, h1, c0, [], [], sm_hid sm1 nDF, hid_upd st1 nD0, gd1, se.ext st1.ext, ci1, nDF, upd_same, rfl, Nat.le_of_eq (Nat.zero_add _), post⟩, ?_⟩
  rintro i m H2 ⟨F2, β2, h2, c2, accD, acc, sm2, st2, gd2, se2, ci2, fD2, hD2, w2, lm, post2⟩
  cases m with
  | zero => exact post2.elim
  | succ m =>
  unfold lcLoop at post2
  have z := ci2.now sm2 gd2
  cases hn : next c2 h2 with
  | stuck => rw [hn] at post2; exact post2.elim
  | stop =>
    rw [hn] at post2 z
    exact .inl ⟨z, post2 (.ref D) F2 β2 H2 sm2 st2 gd2 ⟨D, acc, rfl, nD0, fD2, hD2, w2⟩⟩
  | it d c3 =>
  rw [hn] at post2 z
  simp only at post2
  refine .inr ⟨z.1, W (i + 1) m, fun H' w => ⟨m, Nat.lt_succ_self m, w⟩, fun x H3 y => ?_⟩
  obtain ⟨F3, ps3, r3, ci3⟩ := z.2 x H3 y
  have st3 := Step.trans sm st2 (ps3.step (β := β2))
  have fD3 := ps3.nw D _ fD2 hD2
  have hD3 := ps3.hh D _ hD2
  refine ⟨F3, β2, h2, F3, β2, H3, wipeE en own, .d d, ps3.sm, .refl, ps3.sm, gd2.more ps3.ff, (se2.ext ps3.extb).wipe, r3, ?_⟩
  unfold kTurn at post2
  cases hg : g (wipeE en own) (.d d) h2 with
  | er e h => rw [hg] at post2; exact post2.elim
  | no => rw [hg] at post2; exact post2.elim
  | ok en4 h4 =>
  rw [hg] at post2
  simp only [Out.bind] at post2
  intro F4 β4 H4 σ4 sm4 st4 gd4 se4 kk4
  have st4' := Step.trans sm st3 st4
  obtain ⟨fD4, hD4⟩ := st4.hid D _ fD3 hD3
  have kk : Keeps own (L2.wipe σ own) σ4 := ⟨kk4.1, fun j hj => kk4.2 j fun m => hj (hv j m)⟩
  refine ⟨kk.wipe2, F4, β4, h4, en4, sm4, gd4, se4, ?_⟩
  cases hdi : di en4 h4 with
  | er e h => rw [hdi] at post2; exact post2.elim
  | no => rw [hdi] at post2; exact post2.elim
  | ok b h5 =>
  rw [hdi] at post2
  intro F5 β5 H5 sm5 st5 gd5
  have st5' := Step.trans sm st4' st5
  obtain ⟨fD5, hD5⟩ := st5.hid D _ fD4 hD4
  have x35 : Ext F3 β2 F5 β5 := st4.ext.trans st5.ext
  have se5 := ((se2.ext ps3.extb).ext x35)
  have w5 := VRs.ext x35 _ _ (VRs.ext ps3.extb _ _ w2)
  cases b with
  | false =>
    rw [if_neg (by decide)]
    exact ⟨F5, β5, h5, c3, accD, acc, sm5, st5', gd5, se5, ci3.ext x35, fD5, hD5, w5, by omega, post2⟩
  | true =>
    rw [if_pos rfl]
    refine ⟨F5, β5, h5, en4, sm5, gd5, se4.ext st5.ext, ?_⟩
    simp only at post2
    cases hde : de en4 h5 with
    | er e h => rw [hde] at post2; exact post2.elim
    | no => rw [hde] at post2; exact post2.elim
    | ok r h6 =>
    rw [hde] at post2
    simp only at post2
    intro y F6 β6 H6 sm6 st6 gd6 rr6
    obtain ⟨fD6, hD6⟩ := st6.hid D _ fD5 hD5
    obtain ⟨F7, k1, k2, k3, k4, k5⟩ := freeze1 sm5 st6 sm6 gd6 rr6
    have fD7 : F7 D = none := k5 D fD6 fun m => by
      cases r with
      | d q => exact nomatch m
      | fl l =>
        obtain ⟨b, ws, rfl, n, _⟩ := rr6
        have e : D = b := by simpa [flA] using m
        rw [← e, hD5] at n; cases n
    have x67 : Ext F6 β6 F7 β6 := ⟨fun _ _ z => z, fun b o z m => ⟨k1 b o z, m⟩⟩
    have x57 : Ext F5 β5 F7 β6 := st6.ext.trans x67
    have hl := fuel_line
    refine ⟨acc, hD6, by omega, F7, β6, h6, c3, r.toD :: accD, acc ++ [y], sm_hid k2 fD7, hid_upd (Step.trans sm st5' k3) nD0, gd6.more k1, se5.ext x57, (ci3.ext x35).ext x57, fD7, upd_same, ?_, by rw [List.length_append, List.length_singleton]; omega, post2⟩
    rw [List.reverse_cons]
    exact (VRs.ext x57 _ _ w5).app (VRs.one k4)
theorem pd_Lc {scope : Scope} {own : List (Str × Nat)} (hv : ∀ j ∈ vs, j ∈ own.map (·.2)) (hc : X.calm = true) (hN : X.N.Nodup) (hi : PI X tg iter (tI X.K it)) (ok : BlkOk X.N X.env.scope scope own)
    (hg : ∀ (s : Shared) (H : Hp) (C : Addr) (cl : List (Str × Addr)) (fp : List Addr), PG (X.blk s H scope (compEnvC scope cl C X.env) fp) tg (tG X.K vs g))
    (ht : ∀ (s : Shared) (H : Hp) (C : Addr) (cl : List (Str × Addr)) (fp : List Addr), PTs (X.blk s H scope (compEnvC scope cl C X.env) fp) ifs (tTs X.K di))
    (he : ∀ (s : Shared) (H : Hp) (C : Addr) (cl : List (Str × Addr)) (fp : List Addr), PE (X.blk s H scope (compEnvC scope cl C X.env) fp) elt (tD X.K de)) (hs : ∀ x, foldedSetIterable iter X.env x = pure x) :
    PE X (.ListComp elt [⟨tg, iter, ifs, 0⟩] scope pos) (tD X.K (kLc de g it di (own.map (·.2)))) :=
  PE_weak (pe_lc hc hN hi ok hg ht he hs) fun σ H Q h => lc_weak hv h
theorem tD_mono {K : Kf} {σ : L2.St} {H : Hp} {Q Q' : VK} (h : tD K d σ H Q) (k : ∀ v H', Q v H' → Q' v H') : tD K d σ H Q' := by
  obtain ⟨F, β, hh, en, sm, gd, se, post⟩ := h
  refine ⟨F, β, hh, en, sm, gd, se, ?_⟩
  cases hd : d en hh with
  | er e h => rw [hd] at post; exact post
  | no => rw [hd] at post; exact post
  | ok r h1 => rw [hd] at post; exact fun v F' β' H' a b c e => k v H' (post v F' β' H' a b c e)
theorem al_weak : ∀ σ H Q, tD X.K (kAl d) σ H Q → tD X.K d σ H Q := fun σ H Q ⟨F, β, h, en, sm, gd, se, post⟩ => by
  refine ⟨F, β, h, en, sm, gd, se, ?_⟩
  unfold kAl at post
  cases hd : d en h with
  | er e h => rw [hd] at post; exact post
  | no => rw [hd] at post; exact post
  | ok r h1 =>
    rw [hd] at post
    simp only [Out.bind] at post
    intro v F1 β1 H1 sm1 st1 gd1 rr1
    unfold alR at post
    split at post
    · rename_i ds
      obtain ⟨a, vs, rfl, n0, f, q, w⟩ := rr1
      obtain ⟨k1, k2, k3⟩ := grow sm st1 sm1 gd1 n0 f q w
      exact post (.ref a) _ _ H1 k1 k2 k3 ⟨a, by rw [← gd1.len, List.getElem?_append_right (Nat.le_refl _)]; simp, rfl⟩
    · exact post.elim
theorem nm_weak {i : Nat} {v : V} {σ : L2.St} {H : Hp} {Q : L2.St → Hp → Prop} (h : tG X.K [i] (kNm i) v σ H Q) : gName i v σ H Q := by
  obtain ⟨F, β, h, F0, β0, H₀, en, r, sm0, st, sm, gd, se, rr, post⟩ := h
  unfold kNm at post
  split at post
  case isFalse => exact post.elim
  obtain ⟨F2, k1, k2, k3, k4, _⟩ := freeze1 sm0 st sm gd rr
  have x2 : Ext F β F2 β := ⟨fun _ _ z => z, fun b o z m => ⟨k1 b o z, m⟩⟩
  exact post F2 β H _ k2 k3 (gd.more k1) ((se.ext x2).set k4) ⟨by rw [List.length_set], fun j hj => by rw [List.getElem?_set_ne]; exact fun e => hj (by rw [e]; exact List.mem_cons_self)⟩
/-- y = [..] on one line, y a local -/
theorem ps_SetLc {scope : Scope} {own : List (Str × Nat)} {i : Nat} {y : Str} {py : Pos} {dl : Den} (hdl : dl = kLc de g it di (own.map (·.2)) ∨ dl = kAl (kLc de g it di (own.map (·.2)))) (hv : ∀ j ∈ vs, j ∈ own.map (·.2)) (hc : X.calm = true) (hN : X.N.Nodup) (hy : X.N[i]? = some y) (hyl : X.env.scope.names.lookup y = some .local)
    (hsw : swapsWith (.ListComp elt [⟨tg, iter, ifs, 0⟩] scope pos) (some (.Name y py)) spos.line X.env = pure true) (hi : PI X tg iter (tI X.K it)) (ok : BlkOk X.N X.env.scope scope own)
    (hg : ∀ (s : Shared) (H : Hp) (C : Addr) (cl : List (Str × Addr)) (fp : List Addr), PG (X.blk s H scope (compEnvC scope cl C X.env) fp) tg (tG X.K vs g))
    (ht : ∀ (s : Shared) (H : Hp) (C : Addr) (cl : List (Str × Addr)) (fp : List Addr), PTs (X.blk s H scope (compEnvC scope cl C X.env) fp) ifs (tTs X.K di))
    (he : ∀ (s : Shared) (H : Hp) (C : Addr) (cl : List (Str × Addr)) (fp : List Addr), PE (X.blk s H scope (compEnvC scope cl C X.env) fp) elt (tD X.K de)) (hs : ∀ x, foldedSetIterable iter X.env x = pure x) :
    PS X (.Assign [.Name y py] (.ListComp elt [⟨tg, iter, ifs, 0⟩] scope pos) spos) (tS X.K (kAsg (kNm i) dl)) := by
  refine PS_weak (ps_setLc hc hN hy hyl hsw hi ok hg ht he hs) fun D σ H h0 => ?_
  have h1 : tD X.K dl σ H (fun x H1 => gName i x σ H1 D.nx) := tD_mono (asg_weak D σ H h0) fun v H' q => nm_weak q
  refine lc_weak hv ?_
  rcases hdl with rfl | rfl
  · exact h1
  · exact al_weak _ _ _ h1
end
end MP
end

section
set_option Elab.async false
set_option linter.all false
set_option maxRecDepth 100000
set_option maxHeartbeats 4000000
namespace MP
open PySem PySem.Spec L2 PyProof.Rows
def n_len : Str := ⟨#[108, 101, 110]⟩
def n_abs : Str := ⟨#[97, 98, 115]⟩
def n_sum : Str := ⟨#[115, 117, 109]⟩
def n_min : Str := ⟨#[109, 105, 110]⟩
def n_max : Str := ⟨#[109, 97, 120]⟩
def n_sorted : Str := ⟨#[115, 111, 114, 116, 101, 100]⟩
def n_list : Str := ⟨#[108, 105, 115, 116]⟩
def n_tuple : Str := ⟨#[116, 117, 112, 108, 101]⟩
def n_int : Str := ⟨#[105, 110, 116]⟩
def n_str : Str := ⟨#[115, 116, 114]⟩
def n_repr : Str := ⟨#[114, 101, 112, 114]⟩
def n_any : Str := ⟨#[97, 110, 121]⟩
def n_all : Str := ⟨#[97, 108, 108]⟩
def n_isinstance : Str := ⟨#[105, 115, 105, 110, 115, 116, 97, 110, 99, 101]⟩
def n_bool : Str := ⟨#[98, 111, 111, 108]⟩
def n_set : Str := ⟨#[115, 101, 116]⟩
def n_zip : Str := ⟨#[122, 105, 112]⟩
def n_range : Str := ⟨#[114, 97, 110, 103, 101]⟩
def n_enumerate : Str := ⟨#[101, 110, 117, 109, 101, 114, 97, 116, 101]⟩
def n_append : Str := ⟨#[97, 112, 112, 101, 110, 100]⟩
def n_extend : Str := ⟨#[101, 120, 116, 101, 110, 100]⟩
def n_pop : Str := ⟨#[112, 111, 112]⟩
def n_get : Str := ⟨#[103, 101, 116]⟩
def n_index : Str := ⟨#[105, 110, 100, 101, 120]⟩
def n_debug : Str := ⟨#[95, 95, 100, 101, 98, 117, 103, 95, 95]⟩
def n_classdict : Str := ⟨#[95, 95, 99, 108, 97, 115, 115, 100, 105, 99, 116, 95, 95]⟩
def bltNames : List Str := [n_len, n_abs, n_sum, n_min, n_max, n_sorted, n_list, n_tuple, n_int, n_str, n_repr, n_any, n_all, n_isinstance, n_bool, n_set, n_zip, n_range, n_enumerate]
def biS : BI → Str
  | .len => n_len
  | .abs => n_abs
  | .sum => n_sum
  | .mn => n_min
  | .mx => n_max
  | .mn2 => n_min
  | .mx2 => n_max
  | .srt => n_sorted
  | .lst => n_list
  | .tup => n_tuple
  | .int => n_int
  | .str => n_str
  | .repr => n_repr
  | .any => n_any
  | .all => n_all
  | .isInt => n_isinstance
  | .isBool => n_isinstance
  | .isTup => n_isinstance
  | .isLst => n_isinstance
  | .isStr => n_isinstance
  | .lenset => n_len
  | .lzip => n_list
  | .lrng1 => n_list
  | .lrng2 => n_list
  | .xtup => n_tuple
def meS : ME → Str
  | .append => n_append
  | .extend => n_extend
  | .pop => n_pop
  | .popAt => n_pop
/-- what is known of a place in the text -/
structure Gam where
  N : List Str
  sc : Scope
  cel : Option Scope
def visB (sc : Scope) (x : Str) : Bool := match sc.names.lookup x with
  | some .local => true
  | some .cell => true
  | some .free => true
  | _ => false
def locB (sc : Scope) (x : Str) : Bool := match sc.names.lookup x with
  | some .local => true
  | some .cell => true
  | _ => false
def isLoc (sc : Scope) (x : Str) : Bool := match sc.names.lookup x with
  | some .local => true
  | _ => false
def glB (sc : Scope) (x : Str) : Bool := match sc.names.lookup x with
  | some .globalImplicit => true
  | _ => false
def nmB (x : Str) : Bool := !decide (x = n_debug) && !decide (x = n_classdict)
def fnB (Γ : Gam) (x : Str) : Bool := match Γ.cel with
  | none => true
  | some sc => match sc.names.lookup x with
    | some .cell => true
    | _ => false
def noStars (l : List Expr) : Bool := l.all fun e => !isStar e
def isSlice : Expr → Bool
  | .Slice _ _ _ _ => true
  | _ => false
def isSet : Expr → Bool
  | .Set _ _ _ => true
  | _ => false
def genB : Expr → Bool
  | .BoolOp _ _ _ => false
  | .UnaryOp _ _ _ => false
  | .IfExp _ _ _ _ => false
  | .Compare _ _ _ _ => false
  | _ => true
def baseB : Expr → Bool
  | .Name _ _ => true
  | .Subscript _ _ _ => true
  | _ => false
def chkC : D → Expr → Bool
  | .non, .Constant .none _ _ => true
  | .bl b, .Constant (.bool c) _ _ => b == c
  | .int i, .Constant (.int j) _ _ => decide (i = j)
  | .str x, .Constant (.str y) _ _ => decide (x = y)
  | _, _ => false
def ownP (N : List Str) (own : List Nat) : List (Str × Nat) := own.map fun j => (N.getD j n_debug, j)
def blkB (N : List Str) (sc scope : Scope) (own : List (Str × Nat)) : Bool :=
  decide (scope.kind = .function) && scope.names.all (fun y => decide (scope.names.lookup y.1 = some y.2)) && own.all (fun p => decide (N[p.2]? = some p.1)) &&
  (scope.names.all (fun y => match y.2 with
    | .free => match sc.names.lookup y.1 with
      | some .cell => true
      | some .free => true
      | _ => false
    | _ => true) &&
  scope.names.all (fun y => match y.2 with
    | .local => decide (y.1 ∈ own.map (·.1)) || !decide (y.1 ∈ N)
    | .cell => decide (y.1 ∈ own.map (·.1)) || !decide (y.1 ∈ N)
    | _ => true))
mutual
def slT : T → List Nat
  | .nm i => [i]
  | .tp ts => slTs ts
  | .sb _ _ => []
def slTs : Ts → List Nat
  | .nil => []
  | .cons t ts => slT t ++ slTs ts
end
def lenTs : Ts → Nat
  | .nil => 0
  | .cons _ ts => lenTs ts + 1
def gamLc (Γ : Gam) (scope : Scope) : Gam := { N := Γ.N, sc := relS scope Γ.sc, cel := some scope }
def plainBi : BI → Bool
  | .isInt => false
  | .isBool => false
  | .isTup => false
  | .isLst => false
  | .isStr => false
  | .lenset => false
  | .lzip => false
  | .lrng1 => false
  | .lrng2 => false
  | _ => true
section
variable (cn : List Str) (fds : List FD)
mutual
def chkE (Γ : Gam) : E → Expr → Bool
  | .v i, ex => match ex with
    | .Name x _ => decide (Γ.N[i]? = some x) && visB Γ.sc x && nmB x
    | _ => false
  | .c d, ex => chkC d ex
  | .g k, ex => match ex with
    | .Name x _ => decide (cn[k]? = some x) && glB Γ.sc x && nmB x
    | _ => false
  | .tup es, ex => match ex with
    | .Tuple l _ _ => chkEs Γ es l && noStars l
    | _ => false
  | .lst es, ex => match ex with
    | .List l _ => chkEs Γ es l && noStars l
    | _ => false
  | .bin op a b, ex => match ex with
    | .BinOp x o y _ => decide (op = o) && chkE Γ a x && chkE Γ b y
    | _ => false
  | .neg a, ex => match ex with
    | .UnaryOp .USub x _ => chkE Γ a x
    | _ => false
  | .not a, ex => match ex with
    | .UnaryOp .Not x _ => chkE Γ a x
    | _ => false
  | .cmp op a b, ex => match ex with
    | .Compare x [o] [y] _ => decide (op = o) && chkE Γ a x && chkE Γ b y && !behindInMarks o y
    | _ => false
  | .chain o1 o2 a b c, ex => match ex with
    | .Compare x [p1, p2] [y, z] _ => decide (o1 = p1) && decide (o2 = p2) && chkE Γ a x && chkE Γ b y && chkE Γ c z && !lastMarks [p1, p2] [y, z]
    | _ => false
  | .and a b, ex => match ex with
    | .BoolOp .And [x, y] _ => chkE Γ a x && chkE Γ b y
    | .BoolOp .And (x :: y :: z :: r) p => chkE Γ a x && chkE Γ b (.BoolOp .And (y :: z :: r) p)
    | _ => false
  | .or a b, ex => match ex with
    | .BoolOp .Or [x, y] _ => chkE Γ a x && chkE Γ b y
    | .BoolOp .Or (x :: y :: z :: r) p => chkE Γ a x && chkE Γ b (.BoolOp .Or (y :: z :: r) p)
    | _ => false
  | .ite t a b, ex => match ex with
    | .IfExp c x y _ => chkE Γ t c && chkE Γ a x && chkE Γ b y
    | _ => false
  | .ix a b, ex => match ex with
    | .Subscript x y _ => chkE Γ a x && chkE Γ b y && !isSlice y
    | _ => false
  | .sl b1 b2 a lo hi, ex => match ex with
    | .Subscript x (.Slice l h none _) _ => chkE Γ a x && (match l with
      | some e => b1 && chkE Γ lo e
      | none => !b1) && (match h with
      | some e => b2 && chkE Γ hi e
      | none => !b2)
    | _ => false
  | .none, _ => false
  | .rev a, ex => match ex with
    | .Subscript x (.Slice none none (some (.UnaryOp .USub (.Constant (.int 1) _ _) _)) _) _ => chkE Γ a x
    | _ => false
  | .dnew, ex => match ex with
    | .Dict [] [] _ => true
    | _ => false
  | .tix o x, ex => match ex with
    | .Call (.Attribute ob name apos) [e] [] cpos => decide (name = n_index) && chkE Γ o ob && chkE Γ x e && !isStar e && baseB ob && (apos.endLine == cpos.line)
    | _ => false
  | .dget o k x, ex => match ex with
    | .Call (.Attribute ob name apos) [e, f] [] cpos => decide (name = n_get) && chkE Γ o ob && chkE Γ k e && chkE Γ x f && !isStar e && !isStar f && baseB ob && (apos.endLine == cpos.line)
    | _ => false
  | .call f ps kws pm, ex => match ex with
    | .Call (.Name x _) l ks _ => (match fds[f]? with
      | some fd => decide (fd.name = x) && pmOk fd.ps l.length (kwNames ks) pm
      | none => false) && glB Γ.sc x && nmB x && chkEs Γ ps l && chkKs Γ kws ks && noStars l && kwAll ks
    | _ => false
  | .bi b es, ex => chkBi Γ b es ex
  | .meth m o es, ex => match ex with
    | .Call (.Attribute ob name apos) l [] cpos => decide (name = meS m) && chkE Γ o ob && chkEs Γ es l && noStars l && decide (l.length < 30) && baseB ob && (apos.endLine == cpos.line) && (decide (m = .pop) == l.isEmpty)
    | _ => false
  | .lc elt tg it ifs own, ex => match ex with
    | .ListComp el [⟨t, iter, fs, a⟩] scope _ => decide (a = 0) && blkB Γ.N Γ.sc scope (ownP Γ.N own) && chkE (gamLc Γ scope) elt el && chkT (gamLc Γ scope) tg t && chkI Γ it t iter && chkIf (gamLc Γ scope) ifs fs && (slT tg).all (fun j => decide (j ∈ own)) && !isSet iter
    | _ => false
  | .al e, ex => chkE Γ e ex && genB ex
def chkBi (Γ : Gam) : BI → Es → Expr → Bool
  | b, .cons e1 es1, ex => match b, es1, ex with
    | .isInt, .nil, .Call (.Name x _) [e, .Name y _] [] _ => decide (x = n_isinstance) && glB Γ.sc x && decide (y = n_int) && glB Γ.sc y && chkE Γ e1 e && !isStar e
    | .isBool, .nil, .Call (.Name x _) [e, .Name y _] [] _ => decide (x = n_isinstance) && glB Γ.sc x && decide (y = n_bool) && glB Γ.sc y && chkE Γ e1 e && !isStar e
    | .isTup, .nil, .Call (.Name x _) [e, .Name y _] [] _ => decide (x = n_isinstance) && glB Γ.sc x && decide (y = n_tuple) && glB Γ.sc y && chkE Γ e1 e && !isStar e
    | .isLst, .nil, .Call (.Name x _) [e, .Name y _] [] _ => decide (x = n_isinstance) && glB Γ.sc x && decide (y = n_list) && glB Γ.sc y && chkE Γ e1 e && !isStar e
    | .isStr, .nil, .Call (.Name x _) [e, .Name y _] [] _ => decide (x = n_isinstance) && glB Γ.sc x && decide (y = n_str) && glB Γ.sc y && chkE Γ e1 e && !isStar e
    | .lenset, .nil, .Call (.Name x _) [.Call (.Name y _) [e] [] _] [] _ => decide (x = n_len) && glB Γ.sc x && decide (y = n_set) && glB Γ.sc y && chkE Γ e1 e && !isStar e
    | .lrng1, .nil, .Call (.Name x _) [.Call (.Name y _) [e] [] _] [] _ => decide (x = n_list) && glB Γ.sc x && decide (y = n_range) && glB Γ.sc y && chkE Γ e1 e && !isStar e
    | .lrng2, .cons e2 .nil, .Call (.Name x _) [.Call (.Name y _) [e, f] [] _] [] _ => decide (x = n_list) && glB Γ.sc x && decide (y = n_range) && glB Γ.sc y && chkE Γ e1 e && chkE Γ e2 f && !isStar e && !isStar f
    | .lzip, .cons e2 .nil, .Call (.Name x _) [.Call (.Name y _) [e, f] [] _] [] _ => decide (x = n_list) && glB Γ.sc x && decide (y = n_zip) && glB Γ.sc y && chkE Γ e1 e && chkE Γ e2 f && !isStar e && !isStar f
    | b, es1, .Call (.Name x _) (e :: l) [] _ => plainBi b && decide (x = biS b) && glB Γ.sc x && chkE Γ e1 e && chkEs Γ es1 l && noStars (e :: l)
    | _, _, _ => false
  | _, .nil, _ => false
def chkEs (Γ : Gam) : Es → List Expr → Bool
  | .nil, [] => true
  | .cons e es, x :: l => chkE Γ e x && chkEs Γ es l
  | _, _ => false
def chkKs (Γ : Gam) : Es → List Keyword → Bool
  | .nil, [] => true
  | .cons e es, ⟨_, x, _⟩ :: l => chkE Γ e x && chkKs Γ es l
  | _, _ => false
def chkIf (Γ : Gam) : Es → List Expr → Bool
  | .nil, [] => true
  | .cons e .nil, [x] => chkE Γ e x
  | _, _ => false
def chkT (Γ : Gam) : T → Expr → Bool
  | .nm i, ex => match ex with
    | .Name x _ => decide (Γ.N[i]? = some x) && locB Γ.sc x && (fnB Γ x || isLoc Γ.sc x)
    | _ => false
  | .tp ts, ex => match ex with
    | .Tuple l _ _ => chkTs Γ ts l && noStars l && decide (l.length = lenTs ts)
    | _ => false
  | .sb a i, ex => match ex with
    | .Subscript x y _ => chkE Γ a x && chkE Γ i y && !isSlice y
    | _ => false
def chkTs (Γ : Gam) : Ts → List Expr → Bool
  | .nil, [] => true
  | .cons t ts, x :: l => chkT Γ t x && chkTs Γ ts l
  | _, _ => false
def chkI (Γ : Gam) : I → Expr → Expr → Bool
  | .e a, _, ex => chkE Γ a ex
  | .rg1 a, _, ex => match ex with
    | .Call (.Name x _) [e] [] _ => decide (x = n_range) && glB Γ.sc x && chkE Γ a e && !isStar e
    | _ => false
  | .rg2 a b, _, ex => match ex with
    | .Call (.Name x _) [e, f] [] _ => decide (x = n_range) && glB Γ.sc x && chkE Γ a e && chkE Γ b f && !isStar e && !isStar f
    | _ => false
  | .en a, tg, ex => match tg, ex with
    | .Tuple _ _ _, .Call (.Name x _) [e] [] _ => decide (x = n_enumerate) && glB Γ.sc x && chkE Γ a e && !isStar e
    | _, _ => false
  | .zp a b, tg, ex => match tg, ex with
    | .Tuple _ _ _, .Call (.Name x _) [e, f] [] _ => decide (x = n_zip) && glB Γ.sc x && chkE Γ a e && chkE Γ b f && !isStar e && !isStar f
    | _, _ => false
end
end
end MP
end

section
set_option Elab.async false
set_option linter.all false
set_option maxRecDepth 100000
set_option maxHeartbeats 4000000
namespace MP
open PySem PySem.Spec L2 PyProof.Rows
structure GoodX (cs : List D) (cn : List Str) (fds : List FD) (k : Nat) (Γ : Gam) (X : Cx) : Prop where
  N : X.N = Γ.N
  sc : X.env.scope = Γ.sc
  cel : ∀ x, fnB Γ x = true → X.fn x = true
  nd : Γ.N.Nodup
  calm : X.calm = true
  gd : X.A.guards = some []
  room : Room k X.A
  blt : ∀ x, x ∈ bltNames → X.mg x = none
  cst : ∀ (j : Nat) (x : Str), cn[j]? = some x → ∃ u v d, cs[j]? = some d ∧ X.mg x = some u ∧ RelV v u ∧ VR X.K (fun _ => none) [] d v
  fns : ∀ (i : Nat) (fd : FD), fds[i]? = some fd → ∃ f fdt, X.mg fd.name = some (.ref f) ∧ PySem.W.keepIn X.K (.ref f) = true ∧ Simple fdt fd.ps ∧ FnM X.prog X.w X.K X.mg X.base noX k f fdt fd.ps (spR X.K (runF cs fds k) i fd.ps.length)
section
variable {cs : List D} {cn : List Str} {fds : List FD} {k : Nat} {Γ : Gam} {X : Cx} {x : Str} {pos p : Pos}
theorem GoodX.un (G : GoodX cs cn fds k Γ X) : X.A.units + 65 < cLine := by have := G.room.un; omega
theorem vis_of (G : GoodX cs cn fds k Γ X) (h : visB Γ.sc x = true) : Vis X.env.scope x := by
  rw [G.sc]
  unfold visB at h
  split at h
  · rename_i e; exact .inl e
  · rename_i e; exact .inr (.inl e)
  · rename_i e; exact .inr (.inr e)
  · cases h
theorem loc_of (G : GoodX cs cn fds k Γ X) (h : locB Γ.sc x = true) : Loc X.env.scope x := by
  rw [G.sc]
  unfold locB at h
  split at h
  · rename_i e; exact .inl e
  · rename_i e; exact .inr e
  · cases h
theorem isloc_of (G : GoodX cs cn fds k Γ X) (h : isLoc Γ.sc x = true) : X.env.scope.names.lookup x = some .local := by
  rw [G.sc]
  unfold isLoc at h
  split at h
  · rename_i e; exact e
  · cases h
theorem gl_of (G : GoodX cs cn fds k Γ X) (h : glB Γ.sc x = true) : Gl X x := by
  show X.env.scope.names.lookup x = some .globalImplicit
  rw [G.sc]
  unfold glB at h
  split at h
  · rename_i e; exact e
  · cases h
theorem nm_of (h : nmB x = true) : (x == ("__debug__" : Str)) = false ∧ (x == ("__classdict__" : Str)) = false := by
  unfold nmB at h
  rw [Bool.and_eq_true] at h
  have e1 : n_debug = ("__debug__" : Str) := by decide
  have e2 : n_classdict = ("__classdict__" : Str) := by decide
  rw [e1, e2] at h
  exact ⟨by simpa using h.1, by simpa using h.2⟩
theorem pd_One (op : BoolOp) {a : Expr} {d : Den} (h : PE X a (tD X.K d)) : PE X (.BoolOp op [a] pos) (tD X.K d) := ⟨fun pins s σ H Q I q => h.run pins s σ H Q I q⟩
theorem pt_Ite {a b c : Expr} {da db dc : Den} (hc : PT X c (tT X.K dc)) (ha : PT X a (tT X.K da)) (hb : PT X b (tT X.K db)) : PT X (.IfExp c a b pos) (tT X.K (kIte dc da db)) := by
  refine ⟨fun pins s σ H Q I ⟨F, β, h, en, sm, gd, se, post⟩ => ?_⟩
  rw [test_ite] at post
  have h0 := bindTB (K := X.K) (k := fun b H1 => if b = true then tT X.K da σ H1 Q else tT X.K db σ H1 Q) sm gd se post fun k F1 β1 H1 h1 sm1 st1 gd1 se1 post1 => by
    cases k with
    | true => rw [if_pos rfl]; exact ⟨F1, β1, h1, en, sm1, gd1, se1, post1⟩
    | false => rw [if_neg (by decide)]; exact ⟨F1, β1, h1, en, sm1, gd1, se1, post1⟩
  refine wpAny_bind (thn (hc.run pins s σ H _ I h0) fun k s1 ⟨H1, I1, q1⟩ => ?_)
  cases k with
  | true => rw [if_pos rfl] at q1; exact ha.run pins s1 σ H1 Q I1 q1
  | false => rw [if_neg (by decide)] at q1; exact hb.run pins s1 σ H1 Q I1 q1
theorem pw_of {op : BoolOp} {vs : List Expr} {t : TT} (h : PT X (.BoolOp op vs pos) t) : PW X (.BoolOp op vs pos) t := ⟨fun _ pins s σ H Q I q => h.run pins s σ H Q I q⟩
theorem blk_of {scope : Scope} {own : List (Str × Nat)} (h : blkB Γ.N Γ.sc scope own = true) : BlkOk Γ.N Γ.sc scope own := by
  unfold blkB at h
  simp only [Bool.and_eq_true, decide_eq_true_eq, List.all_eq_true] at h
  obtain ⟨⟨⟨h1, h2⟩, h3⟩, h4, h5⟩ := h
  refine ⟨h1, h2, h3, fun y hy e => ?_, fun y hy e => ?_⟩
  · have := h4 y hy
    rw [e] at this
    simp only at this
    split at this
    · rename_i q; exact .inl q
    · rename_i q; exact .inr q
    · cases this
  · have := h5 y hy
    rcases e with e | e
    · rw [e] at this
      simp only [Bool.or_eq_true, decide_eq_true_eq, Bool.not_eq_true', decide_eq_false_iff_not] at this
      exact this
    · rw [e] at this
      simp only [Bool.or_eq_true, decide_eq_true_eq, Bool.not_eq_true', decide_eq_false_iff_not] at this
      exact this
theorem GoodX.blk (G : GoodX cs cn fds k Γ X) (scope : Scope) (s : Shared) (H : Hp) (C : Addr) (cl : List (Str × Addr)) (fp : List Addr) : GoodX cs cn fds k (gamLc Γ scope) (X.blk s H scope (compEnvC scope cl C X.env) fp) where
  N := G.N
  sc := by
    show relS scope X.env.scope = relS scope Γ.sc
    rw [G.sc]
  cel := fun x h => by
    show (scope.names.lookup x == some .cell) = true
    have h : (match scope.names.lookup x with
      | some .cell => true
      | _ => false) = true := h
    split at h
    · rename_i e; rw [e]; rfl
    · cases h
  nd := G.nd
  calm := G.calm
  gd := G.gd
  room := G.room
  blt := G.blt
  cst := G.cst
  fns := G.fns
theorem ownP_snd {N : List Str} : ∀ own : List Nat, (ownP N own).map (·.2) = own := fun own => by
  unfold ownP
  rw [List.map_map]
  conv => rhs; rw [← List.map_id own]
  rfl
/-- the tests of an expression that is none of its own kinds -/
theorem pt_gen {ex : Expr} {d : Den} (h : PE X ex (tD X.K d)) (he : ∀ whole, isTrue ex X.env whole = (do let v ← whole; standAt ex.pos; holding [v] (truthy v))) : PE X ex (tD X.K d) ∧ PT X ex (tT X.K d) := ⟨h, pt_any h he⟩
theorem pd_Const {d : D} {ex : Expr} (h : chkC d ex = true) : PE X ex (tD X.K (kC d)) ∧ PT X ex (tT X.K (kC d)) := by
  unfold chkC at h
  split at h
  · exact pt_gen (pd_C pe_non fun _ _ _ => rfl) fun _ => rfl
  · rename_i b c _ _
    cases (show b = c by simpa using h)
    exact pt_gen (pd_C pe_bl fun _ _ _ => rfl) fun _ => rfl
  · rename_i b c _ _
    cases (show b = c by simpa using h)
    exact pt_gen (pd_C pe_int fun _ _ _ => rfl) fun _ => rfl
  · rename_i b c _ _
    cases (show b = c by simpa using h)
    exact pt_gen (pd_C pe_str fun _ _ _ => rfl) fun _ => rfl
  · cases h
theorem base_of {o : Expr} {name : Str} {env : Env} (h : baseB o = true) : attributeBase o name env (eval o env) = eval o env := by
  unfold baseB at h
  split at h
  · rfl
  · rfl
  · cases h
theorem len_Es (cl : Cl) : ∀ (es : Es) (l : List Expr), chkEs cn fds Γ es l = true → ∀ en h rs h', dEs cl cs es en h = .ok rs h' → rs.length = l.length
  | .nil, [], _, en, h, rs, h', e => by
    have e : Out.ok [] h = Out.ok rs h' := e
    cases e; rfl
  | .cons a es, x :: l, c, en, h, rs, h', e => by
    unfold chkEs at c
    rw [Bool.and_eq_true] at c
    have e : ((dE cl cs a en h).bind fun r h => (dEs cl cs es en h).bind fun rs h => .ok (r :: rs) h) = .ok rs h' := e
    cases ha : dE cl cs a en h with
    | er e2 h2 => rw [ha] at e; cases e
    | no => rw [ha] at e; cases e
    | ok r h1 =>
      rw [ha] at e
      have e : ((dEs cl cs es en h1).bind fun rs h => .ok (r :: rs) h) = .ok rs h' := e
      cases hb : dEs cl cs es en h1 with
      | er e2 h2 => rw [hb] at e; cases e
      | no => rw [hb] at e; cases e
      | ok qs h2 =>
        rw [hb] at e
        have e : Out.ok (r :: qs) h2 = .ok rs h' := e
        cases e
        rw [List.length_cons, List.length_cons, len_Es cl es l c.2 en h1 qs _ hb]
  | .nil, _ :: _, c, _, _, _, _, _ => by unfold chkEs at c; cases c
  | .cons _ _, [], c, _, _, _, _, _ => by unfold chkEs at c; cases c
theorem len_Ks (cl : Cl) : ∀ (es : Es) (l : List Keyword), chkKs cn fds Γ es l = true → ∀ en h rs h', dEs cl cs es en h = .ok rs h' → rs.length = l.length
  | .nil, [], _, en, h, rs, h', e => by
    have e : Out.ok [] h = Out.ok rs h' := e
    cases e; rfl
  | .cons a es, ⟨n, x, q⟩ :: l, c, en, h, rs, h', e => by
    unfold chkKs at c
    rw [Bool.and_eq_true] at c
    have e : ((dE cl cs a en h).bind fun r h => (dEs cl cs es en h).bind fun rs h => .ok (r :: rs) h) = .ok rs h' := e
    cases ha : dE cl cs a en h with
    | er e2 h2 => rw [ha] at e; cases e
    | no => rw [ha] at e; cases e
    | ok r h1 =>
      rw [ha] at e
      have e : ((dEs cl cs es en h1).bind fun rs h => .ok (r :: rs) h) = .ok rs h' := e
      cases hb : dEs cl cs es en h1 with
      | er e2 h2 => rw [hb] at e; cases e
      | no => rw [hb] at e; cases e
      | ok qs h2 =>
        rw [hb] at e
        have e : Out.ok (r :: qs) h2 = .ok rs h' := e
        cases e
        rw [List.length_cons, List.length_cons, len_Ks cl es l c.2 en h1 qs _ hb]
  | .nil, _ :: _, c, _, _, _, _, _ => by unfold chkKs at c; cases c
  | .cons _ _, [], c, _, _, _, _, _ => by unfold chkKs at c; cases c
theorem len_Ts (cl : Cl) : ∀ (ts : Ts) en ds h en' h', dTs cl cs ts en ds h = .ok en' h' → ds.length = lenTs ts
  | .nil, en, ds, h, en', h', e => by
    cases ds with
    | nil => rfl
    | cons d r => exact nomatch (show (Out.no : Out En) = .ok en' h' from e)
  | .cons t ts, en, ds, h, en', h', e => by
    cases ds with
    | nil => exact nomatch (show (Out.no : Out En) = .ok en' h' from e)
    | cons d r =>
      have e : ((dT cl cs t en (.d d) h).bind fun en h => dTs cl cs ts en r h) = .ok en' h' := e
      cases ht : dT cl cs t en (.d d) h with
      | er e2 h2 => rw [ht] at e; cases e
      | no => rw [ht] at e; cases e
      | ok en1 h1 =>
        rw [ht] at e
        show r.length + 1 = lenTs ts + 1
        rw [len_Ts cl ts en1 r h1 en' h' e]
end
end MP
end

section
set_option Elab.async false
set_option linter.all false
set_option maxRecDepth 100000
set_option maxHeartbeats 8000000
namespace MP
open PySem PySem.Spec L2 PyProof.Rows
section
variable {cs : List D} {cn : List Str} {fds : List FD} {k : Nat}
theorem eq_len : n_len = ("len" : Str) := by decide
theorem eq_abs : n_abs = ("abs" : Str) := by decide
theorem eq_sum : n_sum = ("sum" : Str) := by decide
theorem eq_min : n_min = ("min" : Str) := by decide
theorem eq_max : n_max = ("max" : Str) := by decide
theorem eq_sorted : n_sorted = ("sorted" : Str) := by decide
theorem eq_list : n_list = ("list" : Str) := by decide
theorem eq_tuple : n_tuple = ("tuple" : Str) := by decide
theorem eq_int : n_int = ("int" : Str) := by decide
theorem eq_str : n_str = ("str" : Str) := by decide
theorem eq_repr : n_repr = ("repr" : Str) := by decide
theorem eq_any : n_any = ("any" : Str) := by decide
theorem eq_all : n_all = ("all" : Str) := by decide
theorem eq_isinstance : n_isinstance = ("isinstance" : Str) := by decide
theorem eq_bool : n_bool = ("bool" : Str) := by decide
theorem eq_set : n_set = ("set" : Str) := by decide
theorem eq_zip : n_zip = ("zip" : Str) := by decide
theorem eq_range : n_range = ("range" : Str) := by decide
theorem eq_enumerate : n_enumerate = ("enumerate" : Str) := by decide
theorem eq_append : n_append = ("append" : Str) := by decide
theorem eq_extend : n_extend = ("extend" : Str) := by decide
theorem eq_get : n_get = ("get" : Str) := by decide
theorem eq_index : n_index = ("index" : Str) := by decide
theorem eq_pop : n_pop = ("pop" : Str) := by decide
theorem not_names : ∀ x ∈ bltNames, x ≠ ("__name__" : Str) ∧ (x == ("__debug__" : Str)) = false := by decide +kernel
variable {Γ : Gam} {X : Cx} {pos p p2 : Pos} {x : Str} {e : Expr} {es : List Expr} {ds : DenL}
theorem bi_B {b : BI} {id : String} {g : B1} (G : GoodX cs cn fds k Γ X) (hb : biD b = g) (hc : CallR X (.builtin id) (rOp1 X.K g)) (hv : bootBuiltins x = some (.builtin id)) (hx : x ∈ bltNames) (hg : glB Γ.sc x = true) (ha : PA X (e :: es) (tL X.K ds)) (hs : (e :: es).all (fun e => !isStar e) = true) :
    PE X (.Call (.Name x p) (e :: es) [] pos) (tD X.K (kBi b ds)) := pd_biB hb hc (gl_of G hg) (G.blt x hx) hv ha (not_names x hx).1 (not_names x hx).2 hs
theorem bi_T {b : BI} {id : String} {g : B1} (G : GoodX cs cn fds k Γ X) (hb : biD b = g) (hc : CallR X (.type id) (rOp1 X.K g)) (hv : bootBuiltins x = some (.type id)) (hx : x ∈ bltNames) (hg : glB Γ.sc x = true) (ha : PA X (e :: es) (tL X.K ds)) (hs : (e :: es).all (fun e => !isStar e) = true) :
    PE X (.Call (.Name x p) (e :: es) [] pos) (tD X.K (kBi b ds)) := pd_biT hb hc (gl_of G hg) (G.blt x hx) hv ha (not_names x hx).1 (not_names x hx).2 hs
theorem bi_any {b : BI} (G : GoodX cs cn fds k Γ X) (hp : plainBi b = true) (hx : x = biS b) (hg : glB Γ.sc x = true) (ha : PA X (e :: es) (tL X.K ds)) (hs : (e :: es).all (fun e => !isStar e) = true) :
    PE X (.Call (.Name x p) (e :: es) [] pos) (tD X.K (kBi b ds)) := by
  have hc := G.calm
  have hu := G.un
  subst hx
  cases b with
  | len => exact bi_B G rfl cb_len (by rw [show biS .len = "len" from eq_len]; exact PySem.boot_len) (by decide) hg ha hs
  | abs => exact bi_B G rfl cb_abs (by rw [show biS .abs = "abs" from eq_abs]; decide +kernel) (by decide) hg ha hs
  | sum => exact bi_B G rfl (cb_sum hc) (by rw [show biS .sum = "sum" from eq_sum]; decide +kernel) (by decide) hg ha hs
  | mn => exact bi_B G rfl (cb_mn hc hu) (by rw [show biS .mn = "min" from eq_min]; decide +kernel) (by decide) hg ha hs
  | mx => exact bi_B G rfl (cb_mx hc hu) (by rw [show biS .mx = "max" from eq_max]; decide +kernel) (by decide) hg ha hs
  | mn2 => exact bi_B G rfl (cb_mn2 hc) (by rw [show biS .mn2 = "min" from eq_min]; decide +kernel) (by decide) hg ha hs
  | mx2 => exact bi_B G rfl (cb_mx2 hc) (by rw [show biS .mx2 = "max" from eq_max]; decide +kernel) (by decide) hg ha hs
  | srt => exact bi_B G rfl (cb_srt hu) (by rw [show biS .srt = "sorted" from eq_sorted]; decide +kernel) (by decide) hg ha hs
  | lst => exact bi_T G rfl cb_lst (by rw [show biS .lst = "list" from eq_list]; decide +kernel) (by decide) hg ha hs
  | tup => exact bi_T G rfl cb_tup (by rw [show biS .tup = "tuple" from eq_tuple]; decide +kernel) (by decide) hg ha hs
  | xtup => exact bi_T G rfl cb_xtup (by rw [show biS .xtup = "tuple" from eq_tuple]; decide +kernel) (by decide) hg ha hs
  | int => exact bi_T G rfl cb_int (by rw [show biS .int = "int" from eq_int]; decide +kernel) (by decide) hg ha hs
  | str => exact bi_T G rfl cb_str (by rw [show biS .str = "str" from eq_str]; decide +kernel) (by decide) hg ha hs
  | repr => exact bi_B G rfl (cb_repr G.gd hu) (by rw [show biS .repr = "repr" from eq_repr]; decide +kernel) (by decide) hg ha hs
  | any => exact bi_B G rfl (cb_any hc) (by rw [show biS .any = "any" from eq_any]; decide +kernel) (by decide) hg ha hs
  | all => exact bi_B G rfl (cb_all hc) (by rw [show biS .all = "all" from eq_all]; decide +kernel) (by decide) hg ha hs
  | _ => cases hp
theorem bi_is {b : BI} {f : D → Bool} {T : String} {y : Str} {d : Den} (G : GoodX cs cn fds k Γ X) (hb : biD b = bIs f) (hk : ∀ d, kitB (tyD d) T = some (f d)) (hx : x = n_isinstance) (hg : glB Γ.sc x = true) (hy : y ∈ bltNames) (hvy : bootBuiltins y = some (.type T)) (hg2 : glB Γ.sc y = true)
    (he : PE X e (tD X.K d)) (hs : isStar e = false) : PE X (.Call (.Name x p) [e, .Name y p2] [] pos) (tD X.K (kBi b (kCons d kNil))) := by
  have hxm : x ∈ bltNames := by rw [hx]; decide
  exact pd_is hb hk (gl_of G hg) (G.blt x hxm) (by rw [hx, eq_isinstance]; decide +kernel) (gl_of G hg2) (G.blt y hy) hvy he (not_names x hxm).1 (not_names x hxm).2 (not_names y hy).1 (not_names y hy).2 hs
theorem ns (l : List Expr) (h : noStars l = true) : l.all (fun e => !isStar e) = true := h
theorem ns1 {e : Expr} (h : (!isStar e) = true) : isStar e = false := by simpa using h
end
end MP
end

section
set_option Elab.async false
set_option linter.all false
set_option maxRecDepth 100000
set_option maxHeartbeats 8000000
namespace MP
open PySem PySem.Spec L2 PyProof.Rows
section
variable {cs : List D} {cn : List Str} {fds : List FD} {k : Nat}
theorem ix_plain {b : Expr} (h : isSlice b = false) : PlainIx b := fun o i => by cases b <;> first | rfl | cases h
theorem sub_plain {o i : Expr} {pos : Pos} {env : Env} (h : isSlice i = false) (v : Value) : assign (.Subscript o i pos) env v = (do
      let ov ← holding [v] (eval o env)
      let iv ← holding [v, ov] (eval i env)
      standAt pos
      holding [v, ov, iv] (setItem ov iv v)
      release [v, ov, iv] []) := by cases i <;> first | rfl | cases h
theorem set_plain {e : Expr} {env : Env} (h : isSet e = false) (x : Value) : foldedSetIterable e env x = pure x := by cases e <;> first | rfl | cases h
theorem gen_true {ex : Expr} {env : Env} (h : genB ex = true) : ∀ whole, isTrue ex env whole = (do let v ← whole; standAt ex.pos; holding [v] (truthy v)) := fun whole => by cases ex <;> first | rfl | cases h
mutual
theorem sE : ∀ (e : E) {Γ : Gam} {X : Cx} (G : GoodX cs cn fds k Γ X) {ex : Expr}, chkE cn fds Γ e ex = true → PE X ex (tD X.K (dE (runF cs fds k) cs e)) ∧ PT X ex (tT X.K (dE (runF cs fds k) cs e))
  | .v i, Γ, X, G, ex, h => by
    unfold chkE at h
    split at h
    case h_2 => cases h
    simp only [Bool.and_eq_true, decide_eq_true_eq] at h
    obtain ⟨⟨h1, h2⟩, h3⟩ := h
    exact pt_gen (pd_V (by rw [G.N]; exact h1) (vis_of G h2) (nm_of h3).1 (nm_of h3).2) fun _ => rfl
  | .c d, Γ, X, G, ex, h => by
    unfold chkE at h
    exact pd_Const h
  | .g j, Γ, X, G, ex, h => by
    unfold chkE at h
    split at h
    case h_2 => cases h
    simp only [Bool.and_eq_true, decide_eq_true_eq] at h
    obtain ⟨⟨h1, h2⟩, h3⟩ := h
    obtain ⟨u, v, d, c1, c2, c3, c4⟩ := G.cst j _ h1
    exact pt_gen (pd_G (gl_of G h2) c2 c3 (nm_of h3).1 c1 c4) fun _ => rfl
  | .tup es, Γ, X, G, ex, h => by
    unfold chkE at h
    split at h
    case h_2 => cases h
    rw [Bool.and_eq_true] at h
    exact pt_gen (pd_Tup (sEs es G h.1 h.2)) fun _ => rfl
  | .lst es, Γ, X, G, ex, h => by
    unfold chkE at h
    split at h
    case h_2 => cases h
    rw [Bool.and_eq_true] at h
    exact pt_gen (pd_Lst (sEs es G h.1 h.2)) fun _ => rfl
  | .bin op a b, Γ, X, G, ex, h => by
    unfold chkE at h
    split at h
    case h_2 => cases h
    simp only [Bool.and_eq_true, decide_eq_true_eq] at h
    obtain ⟨⟨rfl, h2⟩, h3⟩ := h
    exact pt_gen (pd_Bin (sE a G h2).1 (sE b G h3).1) fun _ => rfl
  | .neg a, Γ, X, G, ex, h => by
    unfold chkE at h
    split at h
    case h_2 => cases h
    exact pt_gen (pd_Neg (sE a G h).1) fun _ => rfl
  | .not a, Γ, X, G, ex, h => by
    unfold chkE at h
    split at h
    case h_2 => cases h
    exact ⟨pd_Not (sE a G h).1, pt_Not (sE a G h).2⟩
  | .cmp op a b, Γ, X, G, ex, h => by
    unfold chkE at h
    split at h
    case h_2 => cases h
    simp only [Bool.and_eq_true, decide_eq_true_eq] at h
    obtain ⟨⟨⟨rfl, h2⟩, h3⟩, h4⟩ := h
    exact ⟨pd_Cmp G.un (sE a G h2).1 (sE b G h3).1 (by simpa using h4), pt_Cmp G.un (sE a G h2).1 (sE b G h3).1 (by simpa using h4)⟩
  | .chain o1 o2 a b c, Γ, X, G, ex, h => by
    unfold chkE at h
    split at h
    case h_2 => cases h
    simp only [Bool.and_eq_true, decide_eq_true_eq] at h
    obtain ⟨⟨⟨⟨⟨rfl, rfl⟩, h2⟩, h3⟩, h4⟩, h5⟩ := h
    exact ⟨pd_Chain G.un (sE a G h2).1 (sE b G h3).1 (sE c G h4).1 (by simpa using h5), pt_Chain G.un (sE a G h2).1 (sE b G h3).1 (sE c G h4).1 (by simpa using h5)⟩
  | .and a b, Γ, X, G, ex, h => by
    unfold chkE at h
    split at h
    case h_3 => cases h
    · rw [Bool.and_eq_true] at h
      exact ⟨pd_And (sE a G h.1).1 (pd_One .And (sE b G h.2).1), (pw_And (sE a G h.1).2 (pw_and1 (sE b G h.2).2)).pt⟩
    · rw [Bool.and_eq_true] at h
      exact ⟨pd_And (sE a G h.1).1 (sE b G h.2).1, (pw_And (sE a G h.1).2 (pw_of (sE b G h.2).2)).pt⟩
  | .or a b, Γ, X, G, ex, h => by
    unfold chkE at h
    split at h
    case h_3 => cases h
    · rw [Bool.and_eq_true] at h
      exact ⟨pd_Or (sE a G h.1).1 (pd_One .Or (sE b G h.2).1), (pw_Or (sE a G h.1).2 (pw_or1 (sE b G h.2).2)).pt⟩
    · rw [Bool.and_eq_true] at h
      exact ⟨pd_Or (sE a G h.1).1 (sE b G h.2).1, (pw_Or (sE a G h.1).2 (pw_of (sE b G h.2).2)).pt⟩
  | .ite t a b, Γ, X, G, ex, h => by
    unfold chkE at h
    split at h
    case h_2 => cases h
    simp only [Bool.and_eq_true] at h
    exact ⟨pd_Ite (sE t G h.1.1).2 (sE a G h.1.2).1 (sE b G h.2).1, pt_Ite (sE t G h.1.1).2 (sE a G h.1.2).2 (sE b G h.2).2⟩
  | .ix a b, Γ, X, G, ex, h => by
    unfold chkE at h
    split at h
    case h_2 => cases h
    simp only [Bool.and_eq_true] at h
    exact pt_gen (pd_Ix (by have := G.un; omega) (sE a G h.1.1).1 (sE b G h.1.2).1 (ix_plain (by simpa using h.2))) fun _ => rfl
  | .sl b1 b2 a lo hi, Γ, X, G, ex, h => by
    unfold chkE at h
    split at h
    case h_2 => cases h
    rename_i x l hh p2 p
    rw [Bool.and_eq_true, Bool.and_eq_true] at h
    obtain ⟨⟨h1, h2⟩, h3⟩ := h
    refine pt_gen (pd_Sl (sE a G h1).1 ?_ ?_) fun _ => rfl
    · cases l with
      | none =>
        have e : b1 = false := by simpa using h2
        subst e
        exact po_No
      | some el =>
        rw [Bool.and_eq_true] at h2
        obtain ⟨rfl, h2⟩ := h2
        exact po_Some (sE lo G h2).1
    · cases hh with
      | none =>
        have e : b2 = false := by simpa using h3
        subst e
        exact po_No
      | some el =>
        rw [Bool.and_eq_true] at h3
        obtain ⟨rfl, h3⟩ := h3
        exact po_Some (sE hi G h3).1
  | .none, Γ, X, G, ex, h => by
    unfold chkE at h
    cases h
  | .rev a, Γ, X, G, ex, h => by
    unfold chkE at h
    split at h
    case h_2 => cases h
    exact pt_gen (pd_Rev (sE a G h).1) fun _ => rfl
  | .dnew, Γ, X, G, ex, h => by
    unfold chkE at h
    split at h
    case h_2 => cases h
    exact pt_gen pd_Dnew fun _ => rfl
  | .tix o x, Γ, X, G, ex, h => by
    unfold chkE at h
    split at h
    case h_2 => cases h
    rename_i ob name apos e cpos
    simp only [Bool.and_eq_true, decide_eq_true_eq] at h
    obtain ⟨⟨⟨⟨⟨rfl, h2⟩, h3⟩, h4⟩, h5⟩, h6⟩ := h
    have hb := base_of (name := n_index) (env := X.env) h5
    rw [eq_index] at hb ⊢
    exact pt_gen (pd_Tix (sE o G h2).1 (sE x G h3).1 (ns1 h4) hb h6) fun _ => rfl
  | .dget o k x, Γ, X, G, ex, h => by
    unfold chkE at h
    split at h
    case h_2 => cases h
    rename_i ob name apos e f cpos
    simp only [Bool.and_eq_true, decide_eq_true_eq] at h
    obtain ⟨⟨⟨⟨⟨⟨⟨rfl, h2⟩, h3⟩, h3b⟩, h4⟩, h4b⟩, h5⟩, h6⟩ := h
    have hb := base_of (name := n_get) (env := X.env) h5
    rw [eq_get] at hb ⊢
    exact pt_gen (pd_Dget (by have := G.un; omega) (sE o G h2).1 (sE k G h3).1 (sE x G h3b).1 (ns1 h4) (ns1 h4b) hb h6) fun _ => rfl
  | .call f ps kws pm, Γ, X, G, ex, h => by
    unfold chkE at h
    split at h
    case h_2 => cases h
    rename_i x px l ks pos
    simp only [Bool.and_eq_true] at h
    obtain ⟨⟨⟨⟨⟨⟨h1, h2⟩, h3⟩, h4⟩, h5⟩, h6⟩, h7⟩ := h
    cases hf : fds[f]? with
    | none => rw [hf] at h1; cases h1
    | some fd =>
    rw [hf] at h1
    simp only [Bool.and_eq_true, decide_eq_true_eq] at h1
    obtain ⟨rfl, h1⟩ := h1
    obtain ⟨fa, fdt, f1, f2, f3, f4⟩ := G.fns f fd hf
    exact pt_gen (pd_Call f4 G.room G.gd f3 (gl_of G h2) f1 f2 (nm_of h3).1 h1 h6 h7 (len_Es _ ps l h4) (len_Ks _ kws ks h5) (sEs ps G h4 h6) (sKs kws G h5)) fun _ => rfl
  | .bi b es, Γ, X, G, ex, h => by
    unfold chkE at h
    exact sBi b es G h
  | .meth m o es, Γ, X, G, ex, h => by
    unfold chkE at h
    split at h
    case h_2 => cases h
    rename_i ob name apos l cpos
    simp only [Bool.and_eq_true, decide_eq_true_eq] at h
    obtain ⟨⟨⟨⟨⟨⟨⟨rfl, h2⟩, h3⟩, h4⟩, h5⟩, h6⟩, h7⟩, h8⟩ := h
    have ho := (sE o G h2).1
    have hb := base_of (name := meS m) (env := X.env) h6
    have hpa := sEs es G h3 h4
    refine pt_gen ?_ fun _ => rfl
    cases l with
    | nil =>
      cases m with
      | pop =>
        cases es with
        | nil =>
          have e : meS .pop = ("pop" : Str) := eq_pop
          rw [e] at hb ⊢
          exact pd_Pop PySem.F.plainAttrs_list PySem.F.slot_list_pop PySem.F.type_list_pop ho hb h7
        | cons _ _ => unfold chkEs at h3; cases h3
      | append => simp at h8
      | extend => simp at h8
      | popAt => simp at h8
    | cons e l =>
      cases m with
      | pop => simp at h8
      | append =>
        have e1 : meS .append = ("append" : Str) := eq_append
        rw [e1] at hb ⊢
        exact pd_Meth PySem.F.plainAttrs_list PySem.F.slot_list_append PySem.F.type_list_append m_append ho hpa hb h7 h4 h5
      | extend =>
        have e1 : meS .extend = ("extend" : Str) := eq_extend
        rw [e1] at hb ⊢
        exact pd_Meth PySem.F.plainAttrs_list PySem.F.slot_list_extend PySem.F.type_list_extend m_extend ho hpa hb h7 h4 h5
      | popAt =>
        have e1 : meS .popAt = ("pop" : Str) := eq_pop
        rw [e1] at hb ⊢
        exact pd_Meth PySem.F.plainAttrs_list PySem.F.slot_list_pop PySem.F.type_list_pop m_popAt ho hpa hb h7 h4 h5
  | .lc elt tg it ifs own, Γ, X, G, ex, h => by
    unfold chkE at h
    split at h
    case h_2 => cases h
    rename_i el t iter fs a scope pos
    simp only [Bool.and_eq_true, decide_eq_true_eq] at h
    obtain ⟨⟨⟨⟨⟨⟨⟨rfl, h2⟩, h3⟩, h4⟩, h5⟩, h6⟩, h7⟩, h8⟩ := h
    have ok := blk_of h2
    rw [← G.N, ← G.sc] at ok
    have e1 := pd_Lc (X := X) (pos := pos) (vs := slT tg) (scope := scope) (own := ownP X.N own) (de := dE (runF cs fds k) cs elt) (g := dT (runF cs fds k) cs tg) (it := dI (runF cs fds k) cs it) (di := dIf (runF cs fds k) cs ifs) (fun j hj => by
        rw [ownP_snd]
        exact of_decide_eq_true (List.all_eq_true.mp h7 j hj)) G.calm (by rw [G.N]; exact G.nd) (sI it G h5) (by rw [G.N] at ok ⊢; exact ok)
      (fun s H C cl fp => sT tg (G.blk scope s H C cl fp) (fun j hj => hj) h4) (fun s H C cl fp => sIf ifs (G.blk scope s H C cl fp) h6) (fun s H C cl fp => (sE elt (G.blk scope s H C cl fp) h3).1) (set_plain (by simpa using h8))
    rw [ownP_snd] at e1
    exact pt_gen e1 fun _ => rfl
  | .al e, Γ, X, G, ex, h => by
    unfold chkE at h
    rw [Bool.and_eq_true] at h
    exact pt_gen (pd_Al (sE e G h.1).1) (gen_true h.2)
theorem sBi : ∀ (b : BI) (es : Es) {Γ : Gam} {X : Cx} (G : GoodX cs cn fds k Γ X) {ex : Expr}, chkBi cn fds Γ b es ex = true → PE X ex (tD X.K (kBi b (dEs (runF cs fds k) cs es))) ∧ PT X ex (tT X.K (kBi b (dEs (runF cs fds k) cs es)))
  | b, .nil, Γ, X, G, ex, h => by
    unfold chkBi at h
    cases h
  | b, .cons e1 .nil, Γ, X, G, ex, h => by
    unfold chkBi at h
    split at h
    · simp only [Bool.and_eq_true, decide_eq_true_eq] at h
      obtain ⟨⟨⟨⟨⟨h1, h2⟩, rfl⟩, h4⟩, h5⟩, h6⟩ := h
      exact pt_gen (bi_is G rfl kind_int h1 h2 (by decide) (by rw [eq_int]; decide +kernel) h4 (sE e1 G h5).1 (ns1 h6)) fun _ => rfl
    · simp only [Bool.and_eq_true, decide_eq_true_eq] at h
      obtain ⟨⟨⟨⟨⟨h1, h2⟩, rfl⟩, h4⟩, h5⟩, h6⟩ := h
      exact pt_gen (bi_is G rfl kind_bool h1 h2 (by decide) (by rw [eq_bool]; decide +kernel) h4 (sE e1 G h5).1 (ns1 h6)) fun _ => rfl
    · simp only [Bool.and_eq_true, decide_eq_true_eq] at h
      obtain ⟨⟨⟨⟨⟨h1, h2⟩, rfl⟩, h4⟩, h5⟩, h6⟩ := h
      exact pt_gen (bi_is G rfl kind_tup h1 h2 (by decide) (by rw [eq_tuple]; decide +kernel) h4 (sE e1 G h5).1 (ns1 h6)) fun _ => rfl
    · simp only [Bool.and_eq_true, decide_eq_true_eq] at h
      obtain ⟨⟨⟨⟨⟨h1, h2⟩, rfl⟩, h4⟩, h5⟩, h6⟩ := h
      exact pt_gen (bi_is G rfl kind_lst h1 h2 (by decide) (by rw [eq_list]; decide +kernel) h4 (sE e1 G h5).1 (ns1 h6)) fun _ => rfl
    · simp only [Bool.and_eq_true, decide_eq_true_eq] at h
      obtain ⟨⟨⟨⟨⟨h1, h2⟩, rfl⟩, h4⟩, h5⟩, h6⟩ := h
      exact pt_gen (bi_is G rfl kind_str h1 h2 (by decide) (by rw [eq_str]; decide +kernel) h4 (sE e1 G h5).1 (ns1 h6)) fun _ => rfl
    · simp only [Bool.and_eq_true, decide_eq_true_eq] at h
      obtain ⟨⟨⟨⟨⟨rfl, h2⟩, rfl⟩, h4⟩, h5⟩, h6⟩ := h
      have m1 := G.blt n_len (by decide)
      have m2 := G.blt n_set (by decide)
      have g1 := gl_of G h2
      have g2 := gl_of G h4
      rw [eq_len] at m1 g1 ⊢
      rw [eq_set] at m2 g2 ⊢
      exact pt_gen (pd_lenset G.calm g1 m1 g2 m2 (sE e1 G h5).1 (ns1 h6)) fun _ => rfl
    · simp only [Bool.and_eq_true, decide_eq_true_eq] at h
      obtain ⟨⟨⟨⟨⟨rfl, h2⟩, rfl⟩, h4⟩, h5⟩, h6⟩ := h
      have m1 := G.blt n_list (by decide)
      have m2 := G.blt n_range (by decide)
      have g1 := gl_of G h2
      have g2 := gl_of G h4
      rw [eq_list] at m1 g1 ⊢
      rw [eq_range] at m2 g2 ⊢
      exact pt_gen (pd_lrng1 G.calm g1 m1 g2 m2 (sE e1 G h5).1 (ns1 h6)) fun _ => rfl
    · rename_i q; cases q
    · rename_i q; cases q
    · simp only [Bool.and_eq_true, decide_eq_true_eq] at h
      obtain ⟨⟨⟨⟨⟨h1, h2⟩, h3⟩, h4⟩, h5⟩, h6⟩ := h
      have h6' := h6
      unfold noStars at h6
      rw [List.all_cons, Bool.and_eq_true] at h6
      exact pt_gen (bi_any G h1 h2 h3 (pa_Cons (sE e1 G h4).1 (sEs .nil G h5 h6.2) (star_cons _ _ _ (ns1 h6.1))) h6') fun _ => rfl
    · cases h
  | b, .cons e1 (.cons e2 es2), Γ, X, G, ex, h => by
    unfold chkBi at h
    split at h
    · rename_i q; cases q
    · rename_i q; cases q
    · rename_i q; cases q
    · rename_i q; cases q
    · rename_i q; cases q
    · rename_i q; cases q
    · rename_i q; cases q
    · rename_i q; cases q
      simp only [Bool.and_eq_true, decide_eq_true_eq] at h
      obtain ⟨⟨⟨⟨⟨⟨⟨rfl, h2⟩, rfl⟩, h4⟩, h5⟩, h6⟩, h7⟩, h8⟩ := h
      have m1 := G.blt n_list (by decide)
      have m2 := G.blt n_range (by decide)
      have g1 := gl_of G h2
      have g2 := gl_of G h4
      rw [eq_list] at m1 g1 ⊢
      rw [eq_range] at m2 g2 ⊢
      exact pt_gen (pd_lrng2 G.calm g1 m1 g2 m2 (sE e1 G h5).1 (sE e2 G h6).1 (ns1 h7) (ns1 h8)) fun _ => rfl
    · rename_i q; cases q
      simp only [Bool.and_eq_true, decide_eq_true_eq] at h
      obtain ⟨⟨⟨⟨⟨⟨⟨rfl, h2⟩, rfl⟩, h4⟩, h5⟩, h6⟩, h7⟩, h8⟩ := h
      have m1 := G.blt n_list (by decide)
      have m2 := G.blt n_zip (by decide)
      have g1 := gl_of G h2
      have g2 := gl_of G h4
      rw [eq_list] at m1 g1 ⊢
      rw [eq_zip] at m2 g2 ⊢
      exact pt_gen (pd_lzip G.calm g1 m1 g2 m2 (sE e1 G h5).1 (sE e2 G h6).1 (ns1 h7) (ns1 h8)) fun _ => rfl
    · simp only [Bool.and_eq_true, decide_eq_true_eq] at h
      obtain ⟨⟨⟨⟨⟨h1, h2⟩, h3⟩, h4⟩, h5⟩, h6⟩ := h
      have h6' := h6
      unfold noStars at h6
      rw [List.all_cons, Bool.and_eq_true] at h6
      exact pt_gen (bi_any G h1 h2 h3 (pa_Cons (sE e1 G h4).1 (sEs (.cons e2 es2) G h5 h6.2) (star_cons _ _ _ (ns1 h6.1))) h6') fun _ => rfl
    · cases h
theorem sEs : ∀ (es : Es) {Γ : Gam} {X : Cx} (G : GoodX cs cn fds k Γ X) {l : List Expr}, chkEs cn fds Γ es l = true → noStars l = true → PA X l (tL X.K (dEs (runF cs fds k) cs es))
  | .nil, Γ, X, G, [], h, _ => pa_Nil
  | .cons e es, Γ, X, G, x :: l, h, hs => by
    unfold chkEs at h
    unfold noStars at hs
    rw [Bool.and_eq_true] at h
    rw [List.all_cons, Bool.and_eq_true] at hs
    exact pa_Cons (sE e G h.1).1 (sEs es G h.2 hs.2) (star_cons _ _ _ (ns1 hs.1))
  | .nil, Γ, X, G, _ :: _, h, _ => by unfold chkEs at h; cases h
  | .cons _ _, Γ, X, G, [], h, _ => by unfold chkEs at h; cases h
theorem sKs : ∀ (es : Es) {Γ : Gam} {X : Cx} (G : GoodX cs cn fds k Γ X) {l : List Keyword}, chkKs cn fds Γ es l = true → PK X l (tL X.K (dEs (runF cs fds k) cs es))
  | .nil, Γ, X, G, [], h => pk_Nil
  | .cons e es, Γ, X, G, ⟨n, x, p⟩ :: l, h => by
    unfold chkKs at h
    rw [Bool.and_eq_true] at h
    exact pk_Cons (sE e G h.1).1 (sKs es G h.2)
  | .nil, Γ, X, G, _ :: _, h => by unfold chkKs at h; cases h
  | .cons _ _, Γ, X, G, [], h => by unfold chkKs at h; cases h
theorem sIf : ∀ (es : Es) {Γ : Gam} {X : Cx} (G : GoodX cs cn fds k Γ X) {l : List Expr}, chkIf cn fds Γ es l = true → PTs X l (tTs X.K (dIf (runF cs fds k) cs es))
  | .nil, Γ, X, G, [], h => pts_Nil
  | .cons e .nil, Γ, X, G, [x], h => by
    unfold chkIf at h
    exact pts_One (sE e G h).2
  | .nil, Γ, X, G, _ :: _, h => by unfold chkIf at h; cases h
  | .cons _ (.cons _ _), Γ, X, G, _, h => by unfold chkIf at h; cases h
  | .cons _ .nil, Γ, X, G, [], h => by unfold chkIf at h; cases h
  | .cons _ .nil, Γ, X, G, _ :: _ :: _, h => by unfold chkIf at h; cases h
theorem sT : ∀ (t : T) {Γ : Gam} {X : Cx} (G : GoodX cs cn fds k Γ X) {ex : Expr} {vs : List Nat} (hv : ∀ j ∈ slT t, j ∈ vs), chkT cn fds Γ t ex = true → PG X ex (tG X.K vs (dT (runF cs fds k) cs t))
  | .nm i, Γ, X, G, ex, vs, hv, h => by
    unfold chkT at h
    split at h
    case h_2 => cases h
    simp only [Bool.and_eq_true, Bool.or_eq_true, decide_eq_true_eq] at h
    obtain ⟨⟨h1, h2⟩, h3⟩ := h
    refine pg_Nm (hv i (by unfold slT; exact List.mem_cons_self)) (by rw [G.N]; exact G.nd) (by rw [G.N]; exact h1) (loc_of G h2) ?_
    rcases h3 with h3 | h3
    · exact .inl (G.cel _ h3)
    · exact .inr (isloc_of G h3)
  | .tp ts, Γ, X, G, ex, vs, hv, h => by
    unfold chkT at h
    split at h
    case h_2 => cases h
    simp only [Bool.and_eq_true, decide_eq_true_eq] at h
    obtain ⟨⟨h1, h2⟩, h3⟩ := h
    exact pg_Tp G.calm (sTs ts G (fun j hj => hv j (by unfold slT; exact hj)) h1 h2) h2 h3 (len_Ts _ ts)
  | .sb a i, Γ, X, G, ex, vs, hv, h => by
    unfold chkT at h
    split at h
    case h_2 => cases h
    simp only [Bool.and_eq_true] at h
    obtain ⟨⟨h1, h2⟩, h3⟩ := h
    exact pg_Sb (by have := G.un; omega) (sE a G h1).1 (sE i G h2).1 (sub_plain (by simpa using h3))
theorem sTs : ∀ (ts : Ts) {Γ : Gam} {X : Cx} (G : GoodX cs cn fds k Γ X) {l : List Expr} {vs : List Nat} (hv : ∀ j ∈ slTs ts, j ∈ vs), chkTs cn fds Γ ts l = true → noStars l = true → PGs X l (tGs X.K vs (dTs (runF cs fds k) cs ts))
  | .nil, Γ, X, G, [], vs, hv, h, _ => pgs_Nil
  | .cons t ts, Γ, X, G, x :: l, vs, hv, h, hs => by
    unfold chkTs at h
    unfold noStars at hs
    rw [Bool.and_eq_true] at h
    rw [List.all_cons, Bool.and_eq_true] at hs
    exact pgs_Cons (sT t G (fun j hj => hv j (by unfold slTs; exact List.mem_append_left _ hj)) h.1) (sTs ts G (fun j hj => hv j (by unfold slTs; exact List.mem_append_right _ hj)) h.2 hs.2) (ns1 hs.1)
  | .nil, Γ, X, G, _ :: _, vs, hv, h, _ => by unfold chkTs at h; cases h
  | .cons _ _, Γ, X, G, [], vs, hv, h, _ => by unfold chkTs at h; cases h
theorem sI : ∀ (t : I) {Γ : Gam} {X : Cx} (G : GoodX cs cn fds k Γ X) {tg ex : Expr}, chkI cn fds Γ t tg ex = true → PI X tg ex (tI X.K (dI (runF cs fds k) cs t))
  | .e a, Γ, X, G, tg, ex, h => by
    unfold chkI at h
    exact pi_e (sE a G h).1
  | .rg1 a, Γ, X, G, tg, ex, h => by
    unfold chkI at h
    split at h
    case h_2 => cases h
    simp only [Bool.and_eq_true, decide_eq_true_eq] at h
    obtain ⟨⟨⟨rfl, h2⟩, h3⟩, h4⟩ := h
    exact pi_rg1 eq_range (gl_of G h2) (G.blt _ (by decide)) (sE a G h3).1 (ns1 h4)
  | .rg2 a b, Γ, X, G, tg, ex, h => by
    unfold chkI at h
    split at h
    case h_2 => cases h
    simp only [Bool.and_eq_true, decide_eq_true_eq] at h
    obtain ⟨⟨⟨⟨⟨rfl, h2⟩, h3⟩, h4⟩, h5⟩, h6⟩ := h
    exact pi_rg2 eq_range (gl_of G h2) (G.blt _ (by decide)) (sE a G h3).1 (sE b G h4).1 (ns1 h5) (ns1 h6)
  | .en a, Γ, X, G, tg, ex, h => by
    unfold chkI at h
    split at h
    case h_2 => cases h
    simp only [Bool.and_eq_true, decide_eq_true_eq] at h
    obtain ⟨⟨⟨rfl, h2⟩, h3⟩, h4⟩ := h
    exact pi_en eq_enumerate (gl_of G h2) (G.blt _ (by decide)) (sE a G h3).1 (ns1 h4)
  | .zp a b, Γ, X, G, tg, ex, h => by
    unfold chkI at h
    split at h
    case h_2 => cases h
    simp only [Bool.and_eq_true, decide_eq_true_eq] at h
    obtain ⟨⟨⟨⟨⟨rfl, h2⟩, h3⟩, h4⟩, h5⟩, h6⟩ := h
    exact pi_zp eq_zip (gl_of G h2) (G.blt _ (by decide)) (sE a G h3).1 (sE b G h4).1 (ns1 h5) (ns1 h6)
end
end
end MP
end

section
set_option Elab.async false
set_option linter.all false
set_option maxRecDepth 100000
set_option maxHeartbeats 8000000
namespace MP
open PySem PySem.Spec L2 PyProof.Rows
/-! ### swaps -/
def swNames (sc : Scope) (ts : List Expr) : List Str := ts.filterMap fun
  | .Name id pos => if sc.names.lookup id == some .local && pos.line == (ts.head?.map (·.pos.line)).getD 0 then some id else none
  | _ => none
def swB (sc : Scope) (tg v : Expr) : Option (Option (List Str)) := match tg, v with
  | .Tuple ts _ _, .Tuple vs _ _ =>
    if (!(ts.length == 2 || ts.length == 3) || vs.length != ts.length) = true then some none
    else if (vs.any fun | .Starred .. => true | _ => false) = true then some none
    else if ((swNames sc ts).length != ts.length || (swNames sc ts).eraseDups.length != (swNames sc ts).length) = true then some none
    else if (vs.all (foldedForSure 8)) = true then some none
    else if (vs.all (constantsAlone 8)) = true then none
    else some (some (swNames sc ts))
  | .List _ _, _ => none
  | _, _ => some none
theorem swB_ok {env : Env} {sc : Scope} {tg v : Expr} {r : Option (List Str)} (hs : env.scope = sc) (hk : sc.kind = .function) (h : swB sc tg v = some r) : swappedStores [tg] v env = pure r := by
  have hb : env.blockKind = .function := by unfold Env.blockKind; rw [hs, hk]; rfl
  subst hs
  unfold swB at h
  split at h
  · rename_i ts k1 p1 vs k2 p2
    have key : swappedStores [.Tuple ts k1 p1] (.Tuple vs k2 p2) env = (if (!(ts.length == 2 || ts.length == 3) || vs.length != ts.length || env.blockKind != .function) = true then pure none
      else if (vs.any fun | .Starred .. => true | _ => false) = true then pure none
      else if ((swNames env.scope ts).length != ts.length || (swNames env.scope ts).eraseDups.length != (swNames env.scope ts).length) = true then pure none
      else if (vs.all (foldedForSure 8)) = true then pure none
      else if (vs.all (constantsAlone 8)) = true then (do unsupported "assign.tuple-of-constant-expressions:order-of-the-stores"; pure (some (swNames env.scope ts))) else pure (some (swNames env.scope ts))) := rfl
    rw [key, hb]
    simp only [bne_self_eq_false, Bool.or_false]
    split at h
    · rename_i c; rw [if_pos c]; cases h; rfl
    rename_i c; rw [if_neg c]
    split at h
    · rename_i c; rw [if_pos c]; cases h; rfl
    rename_i c; rw [if_neg c]
    split at h
    · rename_i c; rw [if_pos c]; cases h; rfl
    rename_i c; rw [if_neg c]
    split at h
    · rename_i c; rw [if_pos c]; cases h; rfl
    rename_i c; rw [if_neg c]
    split at h
    · cases h
    rename_i c; rw [if_neg c]
    cases h; rfl
  · cases h
  · rename_i h1 h2
    cases h
    cases tg with
    | Tuple ts a b =>
      cases v with
      | Tuple vs c d => first | exact absurd rfl (h1 ts a b vs c d rfl) | exact (h1 _ _ _ _ _ _ rfl rfl).elim | exact (h2 _ _ _ _ _ _ rfl rfl).elim
      | _ => rfl
    | List ts a => first | exact (h2 _ _ rfl).elim | exact (h1 _ _ rfl).elim
    | _ => rfl
def swA (sc : Scope) (tg v : Expr) : Option Bool := match v with
  | .ListComp _ _ s p => match tg with
    | .Name t pos => some (sc.names.lookup t == some .local && pos.line == p.line && !(s.names.any fun (n, k) => n == t && (k == .local || k == .cell)))
    | _ => some false
  | .SetComp _ _ _ _ => none
  | .DictComp _ _ _ _ _ => none
  | _ => some false
theorem swA_ok {env : Env} {sc : Scope} {tg v : Expr} {b : Bool} {l : Nat} (hs : env.scope = sc) (hk : sc.kind = .function) (h : swA sc tg v = some b) : swapsWithSole [tg] v l env = pure b := by
  have hb : env.blockKind = .function := by unfold Env.blockKind; rw [hs, hk]; rfl
  subst hs
  unfold swA at h
  split at h
  · split at h
    · cases h
      unfold swapsWithSole swapsWith
      simp only [hb]
      rfl
    · rename_i hn
      cases h
      cases tg with
      | Name t pos => exact absurd rfl (hn t pos)
      | _ => rfl
  · cases h
  · cases h
  · rename_i h1 h2 h3
    cases h
    cases v with
    | ListComp a b c d => exact absurd rfl (h1 a b c d)
    | SetComp a b c d => exact absurd rfl (h2 a b c d)
    | DictComp a b c d e => exact absurd rfl (h3 a b c d e)
    | _ => rfl
def isComp : Expr → Bool
  | .ListComp _ _ _ _ => true
  | .SetComp _ _ _ _ => true
  | .DictComp _ _ _ _ _ => true
  | _ => false
theorem swN_ok {env : Env} {v : Expr} {l : Nat} (h : isComp v = false) : swapsWith v none l env = pure false := by cases v <;> first | rfl | cases h
end MP
end

section
set_option Elab.async false
set_option linter.all false
set_option maxRecDepth 100000
set_option maxHeartbeats 8000000
namespace MP
open PySem PySem.Spec L2 PyProof.Rows
section
variable (cn : List Str) (fds : List FD)
/-- y = [..], stored while it stands on the stack -/
def chkLs (Γ : Gam) (t : T) (e : E) (tg v : Expr) : Bool := match t, tg, v with
  | .nm i, .Name y _, .ListComp el [⟨tt, iter, fs, a⟩] scope _ => decide (Γ.N[i]? = some y) && isLoc Γ.sc y && (match e with
    | .lc _ _ _ _ _ => chkE cn fds Γ e v
    | .al (.lc el tg it ifs own) => chkE cn fds Γ (.lc el tg it ifs own) v
    | _ => false)
  | _, _, _ => false
def chkPar (Γ : Gam) (t : T) (e : E) (tg v : Expr) (ns : List Str) : Bool := match t, e, tg, v with
  | .tp (.cons (.nm i) (.cons (.nm j) .nil)), .tup es, .Tuple [.Name x _, .Name y _] _ _, .Tuple [a, b] _ _ => decide (Γ.N[i]? = some x) && decide (Γ.N[j]? = some y) && decide (i ≠ j) && isLoc Γ.sc x && isLoc Γ.sc y && chkEs cn fds Γ es [a, b] && noStars [a, b] && decide (ns = [x, y])
  | .tp (.cons (.nm i) (.cons (.nm j) (.cons (.nm l) .nil))), .tup es, .Tuple [.Name x _, .Name y _, .Name z _] _ _, .Tuple [a, b, c] _ _ => decide (Γ.N[i]? = some x) && decide (Γ.N[j]? = some y) && decide (Γ.N[l]? = some z) && decide (i ≠ j) && decide (i ≠ l) && decide (j ≠ l) && isLoc Γ.sc x && isLoc Γ.sc y && isLoc Γ.sc z && chkEs cn fds Γ es [a, b, c] && noStars [a, b, c] && decide (ns = [x, y, z])
  | _, _, _, _ => false
def chkAsg (Γ : Gam) (t : T) (e : E) (tg v : Expr) : Bool := match swA Γ.sc tg v with
  | none => false
  | some true => chkLs cn fds Γ t e tg v
  | some false => match swB Γ.sc tg v with
    | none => false
    | some none => chkE cn fds Γ e v && chkT cn fds Γ t tg && !isStar tg
    | some (some ns) => chkPar cn fds Γ t e tg v ns
mutual
def chkS (Γ : Gam) : S → Stmt → Bool
  | .asg t e, st => match st with
    | .Assign [tg] v _ => chkAsg cn fds Γ t e tg v
    | _ => false
  | .exp e, st => match st with
    | .Expr v _ => chkE cn fds Γ e v && !isComp v
    | _ => false
  | .ret e, st => match st with
    | .Return (some v) _ => chkE cn fds Γ e v
    | .Return none _ => match e with
      | .c .non => true
      | _ => false
    | _ => false
  | .ite t a b, st => match st with
    | .If c x y _ => chkE cn fds Γ t c && chkSs Γ a x && chkSs Γ b y
    | _ => false
  | .for t it body, st => match st with
    | .For tg iter b [] _ => chkT cn fds Γ t tg && chkI cn fds Γ it tg iter && chkSs Γ body b && !isSet iter
    | _ => false
  | .while t body, st => match st with
    | .While c b [] _ => chkE cn fds Γ t c && chkSs Γ body b
    | _ => false
  | .pass, st => match st with
    | .Pass _ => true
    | _ => false
  | .raise, _ => true
def chkSs (Γ : Gam) : Ss → List Stmt → Bool
  | .nil, [] => true
  | .cons s ss, x :: l => chkS Γ s x && chkSs Γ ss l
  | _, _ => false
end
end
section
variable {cs : List D} {cn : List Str} {fds : List FD} {k : Nat} {Γ : Gam} {X : Cx} {pos : Pos}
theorem s_Par (G : GoodX cs cn fds k Γ X) (hk : Γ.sc.kind = .function) {t : T} {e : E} {tg v : Expr} {ns : List Str} (h1 : swA Γ.sc tg v = some false) (h2 : swB Γ.sc tg v = some (some ns)) (h : chkPar cn fds Γ t e tg v ns = true) : PS X (.Assign [tg] v pos) (tS X.K (kAsg (dT (runF cs fds k) cs t) (dE (runF cs fds k) cs e))) := by
  unfold chkPar at h
  split at h
  · simp only [Bool.and_eq_true, decide_eq_true_eq] at h
    obtain ⟨⟨⟨⟨⟨⟨⟨a1, a2⟩, a3⟩, a4⟩, a5⟩, a6⟩, a7⟩, rfl⟩ := h
    exact PS_weak (ps_par G.calm (by rw [G.N]; exact G.nd) (by rw [G.N]; exact a1) (by rw [G.N]; exact a2) a3 (isloc_of G a4) (isloc_of G a5) (sEs _ G a6 a7) (swB_ok G.sc hk h2) (swA_ok G.sc hk h1)) par_weak
  · simp only [Bool.and_eq_true, decide_eq_true_eq] at h
    obtain ⟨⟨⟨⟨⟨⟨⟨⟨⟨⟨⟨a1, a2⟩, a3⟩, a4⟩, a5⟩, a6⟩, a7⟩, a8⟩, a9⟩, b1⟩, b2⟩, rfl⟩ := h
    exact PS_weak (ps_par3 G.calm (by rw [G.N]; exact G.nd) (by rw [G.N]; exact a1) (by rw [G.N]; exact a2) (by rw [G.N]; exact a3) a4 a5 a6 (isloc_of G a7) (isloc_of G a8) (isloc_of G a9) (sEs _ G b1 b2) (swB_ok G.sc hk h2) (swA_ok G.sc hk h1)) par3_weak
  · cases h
theorem s_Lc (G : GoodX cs cn fds k Γ X) (hk : Γ.sc.kind = .function) {i : Nat} {elt : E} {tg : T} {it : I} {ifs : Es} {own : List Nat} {y : Str} {py : Pos} {v : Expr} {dl : Den} (hdl : dl = dE (runF cs fds k) cs (.lc elt tg it ifs own) ∨ dl = kAl (dE (runF cs fds k) cs (.lc elt tg it ifs own))) (h1 : swA Γ.sc (.Name y py) v = some true) (hy : Γ.N[i]? = some y) (hl : isLoc Γ.sc y = true) (h : chkE cn fds Γ (.lc elt tg it ifs own) v = true) :
    PS X (.Assign [.Name y py] v pos) (tS X.K (kAsg (kNm i) dl)) := by
  unfold chkE at h
  split at h
  case h_2 => cases h
  rename_i el t iter fs a scope pos'
  simp only [Bool.and_eq_true, decide_eq_true_eq] at h
  obtain ⟨⟨⟨⟨⟨⟨⟨rfl, h2⟩, h3⟩, h4⟩, h5⟩, h6⟩, h7⟩, h8⟩ := h
  have ok := blk_of h2
  rw [← G.N, ← G.sc] at ok
  have sn := ownP_snd (N := X.N) own
  refine ps_SetLc (X := X) (vs := slT tg) (scope := scope) (own := ownP X.N own) (de := dE (runF cs fds k) cs elt) (g := dT (runF cs fds k) cs tg) (it := dI (runF cs fds k) cs it) (di := dIf (runF cs fds k) cs ifs) ?_ (fun j hj => by
      rw [sn]
      exact of_decide_eq_true (List.all_eq_true.mp h7 j hj)) G.calm (by rw [G.N]; exact G.nd) (by rw [G.N]; exact hy) (isloc_of G hl) (swA_ok (l := pos.line) G.sc hk h1) (sI it G h5) (by rw [G.N] at ok ⊢; exact ok)
    (fun s H C cl fp => sT tg (G.blk scope s H C cl fp) (fun j hj => hj) h4) (fun s H C cl fp => sIf ifs (G.blk scope s H C cl fp) h6) (fun s H C cl fp => (sE elt (G.blk scope s H C cl fp) h3).1) (set_plain (by simpa using h8))
  rw [sn]
  exact hdl
theorem s_Asg (G : GoodX cs cn fds k Γ X) (hk : Γ.sc.kind = .function) {t : T} {e : E} {tg v : Expr} (h : chkAsg cn fds Γ t e tg v = true) : PS X (.Assign [tg] v pos) (tS X.K (kAsg (dT (runF cs fds k) cs t) (dE (runF cs fds k) cs e))) := by
  unfold chkAsg at h
  split at h
  · cases h
  · rename_i h1
    unfold chkLs at h
    split at h
    case h_2 => cases h
    simp only [Bool.and_eq_true, decide_eq_true_eq] at h
    obtain ⟨⟨a1, a2⟩, a3⟩ := h
    split at a3
    · exact s_Lc G hk (.inl rfl) h1 a1 a2 a3
    · exact s_Lc G hk (.inr rfl) h1 a1 a2 a3
    · cases a3
  · rename_i h1
    split at h
    · cases h
    · rename_i h2
      simp only [Bool.and_eq_true] at h
      exact ps_Asg (sE e G h.1.1).1 (sT t G (fun j hj => hj) h.1.2) (swA_ok G.sc hk h1) (swB_ok G.sc hk h2) (ns1 h.2)
    · rename_i ns h2
      exact s_Par G hk h1 h2 h
mutual
theorem sS (G : GoodX cs cn fds k Γ X) (hk : Γ.sc.kind = .function) (hp : PassesOwn (model X.prog X.w) X.A X.env X.xe) : ∀ (s : S) {st : Stmt}, chkS cn fds Γ s st = true → PS X st (tS X.K (dS (runF cs fds k) cs s))
  | .asg t e, st, h => by
    unfold chkS at h
    split at h
    case h_2 => cases h
    exact s_Asg G hk h
  | .exp e, st, h => by
    unfold chkS at h
    split at h
    case h_2 => cases h
    rw [Bool.and_eq_true] at h
    exact ps_Exp (sE e G h.1).1 (swN_ok (by simpa using h.2))
  | .ret e, st, h => by
    unfold chkS at h
    split at h
    · exact ps_Ret (sE e G h).1
    · split at h
      · exact ps_RetN
      · cases h
    · cases h
  | .ite t a b, st, h => by
    unfold chkS at h
    split at h
    case h_2 => cases h
    simp only [Bool.and_eq_true] at h
    exact ps_Ite (sE t G h.1.1).2 (sSs G hk hp a h.1.2) (sSs G hk hp b h.2)
  | .for t it body, st, h => by
    unfold chkS at h
    split at h
    case h_2 => cases h
    simp only [Bool.and_eq_true] at h
    exact ps_For hp G.calm (sI it G h.1.1.2) (sT t G (fun j hj => hj) h.1.1.1) (sSs G hk hp body h.1.2) (set_plain (by simpa using h.2))
  | .while t body, st, h => by
    unfold chkS at h
    split at h
    case h_2 => cases h
    simp only [Bool.and_eq_true] at h
    exact ps_While hp (sE t G h.1).2 (sSs G hk hp body h.2)
  | .pass, st, h => by
    unfold chkS at h
    split at h
    · exact ps_Pass
    · cases h
  | .raise, st, h => ps_Raise
theorem sSs (G : GoodX cs cn fds k Γ X) (hk : Γ.sc.kind = .function) (hp : PassesOwn (model X.prog X.w) X.A X.env X.xe) : ∀ (ss : Ss) {l : List Stmt}, chkSs cn fds Γ ss l = true → PSs X l (tS X.K (dSs (runF cs fds k) cs ss))
  | .nil, [], h => pss_Nil
  | .cons s ss, x :: l, h => by
    unfold chkSs at h
    rw [Bool.and_eq_true] at h
    exact pss_Cons (sS G hk hp s h.1) (sSs G hk hp ss h.2)
  | .nil, _ :: _, h => by unfold chkSs at h; cases h
  | .cons _ _, [], h => by unfold chkSs at h; cases h
end
end
end MP
end

section
set_option Elab.async false
set_option linter.all false
set_option maxRecDepth 100000
set_option maxHeartbeats 8000000
namespace MP
open PySem PySem.Spec L2 PyProof.Rows
/-! ### a call's end -/
section
variable {K : Kf} {F F' H H' : Hp} {β β' γ : List Addr} {h h' : Hh}
theorem RT.sub {a : Addr} {vs : List V} (s : ∀ b, b ∈ β → b ∈ β') (r : RT K F β' a vs) : RT K F β a vs := by
  rcases r with ⟨n, r⟩ | r
  · exact .inl ⟨fun m => n (s a m), r⟩
  · exact .inr r
theorem RL.sub {a : Addr} {vs : List V} (s : ∀ b, b ∈ β → b ∈ β') (r : RL K F β' a vs) : RL K F β a vs := ⟨fun m => r.1 (s a m), r.2⟩
mutual
theorem VR.low_ok {n : Nat} (hn : n ≤ β.length) : ∀ (d : D) (v : V), VR K F (β ++ γ) d v → lowD n d = true → VR K F β d v
  | .non, _, h, _ => h
  | .bl _, _, h, _ => h
  | .int _, _, h, _ => h
  | .str _, _, h, _ => h
  | .rp _, _, h, _ => h
  | .tup ds, _, ⟨a, vs, e1, r, q⟩, l => by
    unfold lowD at l
    exact ⟨a, vs, e1, r.sub fun b m => List.mem_append_left _ m, VRs.low_ok hn ds vs q l⟩
  | .lst ds, _, ⟨a, vs, e1, r, q⟩, l => by
    unfold lowD at l
    exact ⟨a, vs, e1, r.sub fun b m => List.mem_append_left _ m, VRs.low_ok hn ds vs q l⟩
  | .ref m, _, ⟨a, e1, e2⟩, l => by
    unfold lowD at l
    have l := of_decide_eq_true l
    exact ⟨a, by rw [List.getElem?_append_left (by omega)] at e1; exact e1, e2⟩
  | .dct ks ds, _, ⟨a, vs, e1, r, z, q⟩, l => by
    unfold lowD at l
    exact ⟨a, vs, e1, ⟨fun m => r.1 (List.mem_append_left _ m), r.2⟩, z, VRs.low_ok hn ds vs q l⟩
  | .xt ds, _, ⟨a, vs, e1, r, q⟩, l => by
    unfold lowD at l
    exact ⟨a, vs, e1, ⟨fun m => r.1 (List.mem_append_left _ m), r.2⟩, VRs.low_ok hn ds vs q l⟩
theorem VRs.low_ok {n : Nat} (hn : n ≤ β.length) : ∀ (ds : List D) (vs : List V), VRs K F (β ++ γ) ds vs → lowAll n ds = true → VRs K F β ds vs
  | [], _, h, _ => h
  | d :: ds, _, ⟨v, r, e1, h1, h2⟩, l => by
    unfold lowAll at l
    rw [Bool.and_eq_true] at l
    exact ⟨v, r, e1, VR.low_ok hn d v h1 l.1, VRs.low_ok hn ds r h2 l.2⟩
end
theorem lowD_mono {n m : Nat} (hnm : n ≤ m) : ∀ (d : D), lowD n d = true → lowD m d = true := by
  intro d
  exact D.rec (motive_1 := fun d => lowD n d = true → lowD m d = true) (motive_2 := fun ds => lowAll n ds = true → lowAll m ds = true)
    (fun _ => rfl) (fun _ _ => rfl) (fun _ _ => rfl) (fun _ _ => rfl) (fun _ _ => rfl)
    (fun ds ih h => by unfold lowD at h ⊢; exact ih h) (fun ds ih h => by unfold lowD at h ⊢; exact ih h)
    (fun k h => by unfold lowD at h ⊢; have := of_decide_eq_true h; exact decide_eq_true (by omega))
    (fun ks ds ih h => by unfold lowD at h ⊢; exact ih h)
    (fun ds ih h => by unfold lowD at h ⊢; exact ih h)
    (fun _ => rfl) (fun d ds ih1 ih2 h => by unfold lowAll at h ⊢; rw [Bool.and_eq_true] at h ⊢; exact ⟨ih1 h.1, ih2 h.2⟩) d
theorem good_take (gd : Good K F (β ++ γ) h) : Good K F β (h.take β.length) := by
  have hl : β.length ≤ h.length := by rw [← gd.len, List.length_append]; omega
  refine ⟨(List.nodup_append.mp gd.nd).1, by rw [List.length_take]; omega, fun n a o e1 e2 => ?_⟩
  have hn : n < β.length := (List.getElem?_eq_some_iff.mp e1).1
  rw [List.getElem?_take_of_lt hn] at e2
  match o, gd.ob n a o (by rw [List.getElem?_append_left hn]; exact e1) e2 with
  | .lst ds, ⟨vs, f, w, l⟩ => exact ⟨vs, f, VRs.low_ok (Nat.le_of_lt hn) ds vs w l, l⟩
  | .dct lk ks ds, ⟨vs, f, w, l, z⟩ => exact ⟨vs, f, VRs.low_ok (Nat.le_of_lt hn) ds vs w l, l, z⟩
theorem allO_len' {α : Type} : ∀ {l : List (Option α)} {ps : List α}, allO l = some ps → ps.length = l.length
  | [], _, e => by cases e; rfl
  | o :: l, ps, e => by
    obtain ⟨p, qs, rfl, _, e3⟩ := allO_cons e
    rw [List.length_cons, List.length_cons, allO_len' e3]
theorem allO_lenM {α β' : Type} {f : β' → Option α} {l : List β'} {ps : List α} (e : allO (l.map f) = some ps) : ps.length = l.length := by rw [allO_len' e, List.length_map]
theorem frz_ok (gd : Good K F (β ++ γ) h) : ∀ (k : Nat) (d d' : D) (v : V), VR K F (β ++ γ) d v → frz h β.length k d = some d' → VR K F β d' v := by
  intro k
  induction k with
  | zero => intro d d' v _ e; exact nomatch e
  | succ k ih =>
    have all : ∀ (ds es : List D) (vs : List V), VRs K F (β ++ γ) ds vs → allO (ds.map (frz h β.length k)) = some es → VRs K F β es vs := fun ds => by
      induction ds with
      | nil => intro es vs w e; cases e; exact w
      | cons d ds ihs =>
        rintro es _ ⟨v, r, rfl, w1, w2⟩ e
        obtain ⟨p, qs, rfl, e1, e2⟩ := allO_cons (show allO (frz h β.length k d :: ds.map (frz h β.length k)) = some es from e)
        exact ⟨v, r, rfl, ih d p v w1 e1, ihs qs r w2 e2⟩
    intro d d' v w e
    cases d with
    | non => cases (show some D.non = some d' from e); exact w
    | bl b => cases (show some (D.bl b) = some d' from e); exact w
    | int b => cases (show some (D.int b) = some d' from e); exact w
    | str b => cases (show some (D.str b) = some d' from e); exact w
    | rp b => cases (show some (D.rp b) = some d' from e); exact w
    | tup ds =>
      have e : (match allO (ds.map (frz h β.length k)) with
        | some l => some (D.tup l)
        | none => none) = some d' := e
      split at e
      · rename_i l hl
        cases e
        obtain ⟨a, vs, rfl, r, w⟩ := w
        exact ⟨a, vs, rfl, r.sub fun b m => List.mem_append_left _ m, all ds l vs w hl⟩
      · cases e
    | lst ds =>
      have e : (match allO (ds.map (frz h β.length k)) with
        | some l => some (D.lst l)
        | none => none) = some d' := e
      split at e
      · rename_i l hl
        cases e
        obtain ⟨a, vs, rfl, r, w⟩ := w
        exact ⟨a, vs, rfl, r.sub fun b m => List.mem_append_left _ m, all ds l vs w hl⟩
      · cases e
    | ref m =>
      have e : (if m < β.length then some (D.ref m) else match h[m]? with
        | some (.lst ds) => match allO (ds.map (frz h β.length k)) with
          | some l => some (.lst l)
          | none => none
        | some (.dct _ ks ds) => match allO (ds.map (frz h β.length k)) with
          | some l => some (.dct ks l)
          | none => none
        | none => none) = some d' := e
      obtain ⟨a, ea, rfl⟩ := w
      split at e
      · rename_i hm
        cases e
        exact ⟨a, by rw [List.getElem?_append_left hm] at ea; exact ea, rfl⟩
      · rename_i hm
        split at e
        · rename_i ds hd
          split at e
          · rename_i l hl
            cases e
            obtain ⟨vs, f, w, _⟩ := gd.at_ ea hd
            refine ⟨a, vs, rfl, ⟨fun z => ?_, .inl f⟩, all ds l vs w hl⟩
            rw [List.getElem?_append_right (by omega)] at ea
            exact (List.nodup_append.mp gd.nd).2.2 a z a (List.mem_of_getElem? ea) rfl
          · cases e
        · rename_i lk ks ds hd
          split at e
          · rename_i l hl
            cases e
            obtain ⟨vs, f, w, _, zl⟩ := gd.ob _ _ _ ea hd
            refine ⟨a, vs, rfl, ⟨fun z => ?_, ?_⟩, ?_, all ds l vs w hl⟩
            · rw [List.getElem?_append_right (by omega)] at ea
              exact (List.nodup_append.mp gd.nd).2.2 a z a (List.mem_of_getElem? ea) rfl
            · cases lk with
              | false => exact .inl f
              | true => obtain ⟨o, f⟩ := f; exact .inr ⟨o, f⟩
            · rw [zl]; exact (allO_lenM hl).symm
          · cases e
        · cases e
    | dct ks ds =>
      have e : (match allO (ds.map (frz h β.length k)) with
        | some l => some (D.dct ks l)
        | none => none) = some d' := e
      split at e
      · rename_i l hl
        cases e
        obtain ⟨a, vs, rfl, r, zl, w⟩ := w
        exact ⟨a, vs, rfl, ⟨fun m => r.1 (List.mem_append_left _ m), r.2⟩, by rw [zl]; exact (allO_lenM hl).symm, all ds l vs w hl⟩
      · cases e
    | xt ds =>
      have e : (match allO (ds.map (frz h β.length k)) with
        | some l => some (D.xt l)
        | none => none) = some d' := e
      split at e
      · rename_i l hl
        cases e
        obtain ⟨a, vs, rfl, r, w⟩ := w
        exact ⟨a, vs, rfl, ⟨fun m => r.1 (List.mem_append_left _ m), r.2⟩, all ds l vs w hl⟩
      · cases e
theorem fin_post {fz : Bool} {r : R} {Q : VK} {v : V} (gd0 : Good K F β h) (post : PostE K F β H (fin h.length fz r h') Q) (sm : Same F' H') (st : Step F β H F' β' H') (gd : Good K F' β' h') (rr : RR K F' β' H H' r v) : Q v H' := by
  obtain ⟨γ, rfl, fr⟩ := st.gm
  have hl : h.length = β.length := gd0.len.symm
  rw [hl] at post
  have st' : Step F β H F' β H' := ⟨⟨[], by simp, fun _ z => by simp at z⟩, st.kp, st.hid⟩
  have gt := good_take gd
  unfold fin at post
  cases fz with
  | true =>
    rw [if_pos rfl] at post
    cases hf : frzR h' β.length r with
    | none => rw [hf] at post; exact post.elim
    | some r' =>
      rw [hf] at post
      simp only at post
      split at post
      · refine post v F' β H' sm st' gt ?_
        cases r with
        | d x =>
          have hf : (frz h' β.length 40 x).map R.d = some r' := hf
          cases hx : frz h' β.length 40 x with
          | none => rw [hx] at hf; cases hf
          | some y => rw [hx] at hf; cases hf; exact frz_ok gd 40 x y v rr hx
        | fl ds =>
          have hf : (allO (ds.map (frz h' β.length 40))).map R.fl = some r' := hf
          cases hx : allO (ds.map (frz h' β.length 40)) with
          | none => rw [hx] at hf; cases hf
          | some es =>
            rw [hx] at hf
            cases hf
            obtain ⟨a, vs, rfl, n0, f, q, w⟩ := rr
            refine ⟨a, vs, rfl, n0, f, q, ?_⟩
            have all : ∀ (ds es : List D) (vs : List V), VRs K F' (β ++ γ) ds vs → allO (ds.map (frz h' β.length 40)) = some es → VRs K F' β es vs := fun ds => by
              induction ds with
              | nil => intro es vs w e; cases e; exact w
              | cons d ds ihs =>
                rintro es _ ⟨v, r, rfl, w1, w2⟩ e
                obtain ⟨p, qs, rfl, e1, e2⟩ := allO_cons (show allO (frz h' β.length 40 d :: ds.map (frz h' β.length 40)) = some es from e)
                exact ⟨v, r, rfl, frz_ok gd 40 d p v w1 e1, ihs qs r w2 e2⟩
            exact all ds es vs w hx
      · exact post.elim
  | false =>
    rw [if_neg (by decide)] at post
    simp only at post
    split at post
    · rename_i hlow
      refine post v F' β H' sm st' gt ?_
      cases r with
      | d x => exact VR.low_ok (Nat.le_refl _) x v rr hlow
      | fl ds =>
        obtain ⟨a, vs, rfl, n0, f, q, w⟩ := rr
        exact ⟨a, vs, rfl, n0, f, q, VRs.low_ok (Nat.le_refl _) ds vs w hlow⟩
    · rw [if_neg (by decide)] at post
      exact post v F' (β ++ γ) H' sm st gd rr
theorem sim_start {N : List Str} {ds : List D} {vs : List V} (w : VRs K F β ds vs) : SimE K F β (ds.map some ++ List.replicate (N.length - ds.length) none) (L2.start N vs) := by
  unfold L2.start
  refine ⟨by simp [w.len], fun i d e => ?_⟩
  by_cases hi : i < ds.length
  · rw [List.getElem?_append_left (by simpa using hi), List.getElem?_map] at e
    cases hd : ds[i]? with
    | none => rw [hd] at e; cases e
    | some x =>
      rw [hd] at e
      cases e
      obtain ⟨v, hv, rv⟩ := w.get hd
      refine ⟨v, ?_, rv⟩
      rw [List.getElem?_append_left (by rw [List.length_map, w.len]; exact hi), List.getElem?_map, hv]
      rfl
  · rw [List.getElem?_append_right (by simpa using hi), List.getElem?_replicate] at e
    split at e <;> cases e
end
/-- THE RULE of a def -/
theorem fn_m {CX : CXT} {P : Program} {w : World} {K : Kf} {mg : Str → Option Value} {base : Heap} {k : Nat} {f : Addr} {name qual : Str} {params : Arguments} {body : List Stmt} {scope : Scope} {dV kV doc pm cdv ct oc : Value} {an od : Option Addr} {osl : Array (Option Value)} {N ps : List Str} {sp : Sp}
    (lk : K.lookup f = some ⟨oc, od, .func (PySem.W.fnOf name qual params body scope dV kV doc pm an cdv ct), osl⟩) (hcd : PySem.W.codeIn K cdv qual = true) (S : FnScope N ps scope) (len : ∀ vs H Q E, sp vs H Q E → vs.length = ps.length)
    (hbody : ∀ (A : Around) (outer : List Env) (s : Shared) (H : Hp) (vs : List V) (Q : VK) (E : XK), Room k (A.deeper (envOfC qual scope s.heap.objs.size f cdv)) → (A.deeper (envOfC qual scope s.heap.objs.size f cdv)).guards = some [] → sp vs H Q E →
      ∃ t, PSs (cxOf CX P w K mg base N qual scope f cdv A outer s H E) body t ∧ t { nx := fun _ H' => Q .non H', rt := Q } (start N vs) H) :
    FnM P w K mg base CX (k + 1) f (PySem.W.fnOf name qual params body scope dV kV doc pm an cdv ct) ps sp := by
  refine ⟨len, fun A outer s H args us vs Q E room hg env0 hb rel hs => ?_⟩
  have hlen := len _ _ _ _ hs
  have kin : K.In s.heap := env0.mod.kin.keeps fun b o z => (env0.bs b o z).1
  have lim : s.heap.NoLimit := env0.mod.nolimit.keeps fun b o z => (env0.bs b o z).1
  have kinds : ∀ y ∈ ps.zip us, scope.names.lookup y.1 = some .local ∨ (scope.names.lookup y.1 = some .cell ∧ ((cellsFrom (s.heap.objs.size + 1) scope.names []).lookup y.1).isSome = true) := fun y hy =>
    (S.par y.1 (List.of_mem_zip hy).1).elim .inl fun z => .inr ⟨z, PySem.W.cellsFrom_some _ _ _ (.inl z)⟩
  refine codeAny_call_function room.depth (kin _ _ lk) rfl S.co S.gen rfl (PySem.W.codeRec_of kin hcd) (hb _ _ _ _ (wpAny_newFunctionEnv_cells S.kind kinds fun env eq s1 ic => ?_))
  subst eq
  refine ⟨lim.keeps ic.toInCall.keep, codeAny_func ?_⟩
  obtain ⟨t, ht, pre⟩ := hbody A outer s H vs Q E (room.deeper _) hg hs
  have I := inv_start (CX := CX) (E := E) S room.hd env0 hlen rel ic
  have ending : ∀ {σ' : L2.St} {H' : Hp} {v : V} {u : Value} {s' : Shared}, L2.Inv (cxOf CX P w K mg base N qual scope f cdv A outer s H E) [] σ' H' s' → RelV v u → Q v H' → CE outer P w H s Q u s' := fun J rv q => ⟨_, _, J.os, J.bare, J.base, J.hok, rv, q⟩
  refine wpAny_mono (ht.run [] s1 (start N vs) H _ I pre) (fun fl s' q => ?_) fun _ _ z => z
  match fl, q with
  | .ret u, ⟨v, σ', H', J, rv, q⟩ => exact ending J rv q
  | .next, ⟨σ', H', J, q⟩ => exact ending (v := V.non) (u := Value.none) J rfl q
  | .brk, ⟨_, _, _, q⟩ => exact q.elim
  | .cont, ⟨_, _, _, q⟩ => exact q.elim
end MP
end

section
set_option Elab.async false
set_option linter.all false
set_option maxRecDepth 100000
set_option maxHeartbeats 8000000
namespace MP
open PySem PySem.Spec L2 PyProof.Rows
/-! ### a program -/
def simB (a : Arguments) (ps : List Str) : Bool := a.posonlyargs.isEmpty && decide (a.args.map (·.arg) = ps) && a.kwonlyargs.isEmpty && a.vararg.isNone && a.kwarg.isNone
def scB (N P : List Str) (sc : Scope) : Bool := decide (sc.kind = .function) && !sc.isCoroutine && !sc.isGenerator && decide N.Nodup && (decide (N.take P.length = P) &&
  P.all (fun x => decide (sc.names.lookup x = some .local) || decide (sc.names.lookup x = some .cell)) && sc.names.all fun y => !decide (y.2 = .free))
def chkF (cn : List Str) (fds : List FD) (fd : FD) (st : Stmt) : Bool := simB (defArgs st) fd.ps && scB fd.N fd.ps (defScope st) && chkSs cn fds ⟨fd.N, defScope st, none⟩ fd.body (defBody st)
theorem sc_of {N P : List Str} {sc : Scope} (h : scB N P sc = true) : FnScope N P sc := by
  unfold scB at h
  simp only [Bool.and_eq_true, decide_eq_true_eq, Bool.not_eq_true', List.all_eq_true, Bool.or_eq_true, decide_eq_false_iff_not] at h
  obtain ⟨⟨⟨⟨h1, h2⟩, h3⟩, h4⟩, ⟨h5, h6⟩, h7⟩ := h
  exact ⟨h1, h2, h3, h4, h5, h6, h7⟩
theorem sim_of {x qual : Str} {a : Arguments} {ps : List Str} {body : List Stmt} {sc : Scope} {kV doc pm cdv ct : Value} {an : Option Addr} (h : simB a ps = true) : Simple (PySem.W.fnOf x qual a body sc .none kV doc pm an cdv ct) ps := by
  unfold simB at h
  simp only [Bool.and_eq_true, decide_eq_true_eq] at h
  obtain ⟨⟨⟨⟨h1, h2⟩, h3⟩, h4⟩, h5⟩ := h
  exact ⟨List.isEmpty_iff.mp h1, h2, List.isEmpty_iff.mp h3, by simpa using h4, by simpa using h5, rfl⟩
structure HasM (K : Kf) (mg : Str → Option Value) (nm : Str) (st : Stmt) : Prop where
  ex : ∃ (f : Addr) (fd : FuncData) (q : Str), Fun K q q st f fd ∧ mg nm = some (.ref f)
structure ProgOk (K : Kf) (mg : Str → Option Value) (cs : List D) (cn : List Str) (fds : List FD) (sts : List Stmt) : Prop where
  chk : (fds.zip sts).all (fun p => chkF cn fds p.1 p.2) = true
  len : fds.length = sts.length
  has : ∀ p ∈ fds.zip sts, HasM K mg p.1.name p.2
  blt : ∀ x, x ∈ bltNames → mg x = none
  cst : ∀ (j : Nat) (x : Str), cn[j]? = some x → ∃ u v d, cs[j]? = some d ∧ mg x = some u ∧ RelV v u ∧ VR K (fun _ => none) [] d v
theorem sp_len {K : Kf} {cl : Cl} {i n : Nat} : ∀ vs H Q E, spR K cl i n vs H Q E → vs.length = n := fun _ _ _ _ h => h.1
theorem prog_m {P : Program} {w : World} {K : Kf} {mg : Str → Option Value} {base : Heap} {cs : List D} {cn : List Str} {fds : List FD} {sts : List Stmt} (O : ProgOk K mg cs cn fds sts) :
    ∀ (k : Nat) (i : Nat) (fd : FD) (st : Stmt) (f : Addr) (fdt : FuncData) (q : Str), fds[i]? = some fd → sts[i]? = some st → Fun K q q st f fdt → FnM P w K mg base noX k f fdt fd.ps (spR K (runF cs fds k) i fd.ps.length) := by
  intro k
  induction k with
  | zero =>
    intro i fd st f fdt q hi hs F
    exact ⟨sp_len, fun A outer s H args us vs Q E _ _ _ _ _ h => by obtain ⟨_, _, _, _, _, _, _, _, post⟩ := h; exact post.elim⟩
  | succ k ih =>
    intro i fd st f fdt q hi hs F
    obtain ⟨oc, od, kV, doc, pm, an, cdv, ct, osl, rfl, lk, hcd⟩ := F.ex
    have hm : (fd, st) ∈ fds.zip sts := List.mem_of_getElem? (i := i) (by rw [List.getElem?_zip_eq_some]; exact ⟨hi, hs⟩)
    have hc := List.all_eq_true.mp O.chk _ hm
    unfold chkF at hc
    rw [Bool.and_eq_true, Bool.and_eq_true] at hc
    obtain ⟨⟨c1, c2⟩, c3⟩ := hc
    have S := sc_of c2
    refine fn_m lk hcd S sp_len fun A outer s H vs Q E room hg ⟨hlen, F0, β, h, ds, sm, gd, w0, post⟩ => ?_
    have G : GoodX cs cn fds k ⟨fd.N, defScope st, none⟩ (cxOf noX P w K mg base fd.N q (defScope st) f cdv A outer s H E) := {
      N := rfl
      sc := rfl
      cel := fun _ _ => rfl
      nd := S.nd
      calm := rfl
      gd := hg
      room := room
      blt := O.blt
      cst := O.cst
      fns := fun j fd' hj => by
        have hj2 : j < sts.length := by rw [← O.len]; exact (List.getElem?_eq_some_iff.mp hj).1
        have hst : sts[j]? = some sts[j] := List.getElem?_eq_getElem hj2
        have hm2 : (fd', sts[j]) ∈ fds.zip sts := List.mem_of_getElem? (i := j) (by rw [List.getElem?_zip_eq_some]; exact ⟨hj, hst⟩)
        obtain ⟨f', fdt', q', F', m'⟩ := (O.has _ hm2).ex
        have c' := List.all_eq_true.mp O.chk _ hm2
        unfold chkF at c'
        rw [Bool.and_eq_true, Bool.and_eq_true] at c'
        refine ⟨f', fdt', m', F'.kp, ?_, ih j fd' sts[j] f' fdt' q' hj hst F'⟩
        obtain ⟨_, _, _, _, _, _, _, _, _, rfl, _, _⟩ := F'.ex
        exact sim_of c'.1.1 }
    refine ⟨_, sSs G S.kind PassesOwn.leaving fd.body c3, F0, β, h, ds.map some ++ List.replicate (fd.N.length - ds.length) none, sm, gd, sim_start w0, ?_⟩
    have post : PostE K F0 β H (match fds[i]? with
      | none => .no
      | some fd => if ds.length = fd.ps.length ∧ fd.ps.length ≤ fd.N.length then
          match dSs (runF cs fds k) cs fd.body (ds.map some ++ List.replicate (fd.N.length - ds.length) none) h with
          | .ok (.nx _) h' => fin h.length fd.fz (.d .non) h'
          | .ok (.rt r) h' => fin h.length fd.fz r h'
          | .er e h' => .er e h'
          | .no => .no
        else .no) Q := post
    rw [hi] at post
    simp only at post
    split at post
    case isFalse => exact post.elim
    cases hd : dSs (runF cs fds k) cs fd.body (ds.map some ++ List.replicate (fd.N.length - ds.length) none) h with
    | er e h => rw [hd] at post; exact post.elim
    | no => rw [hd] at post; exact post.elim
    | ok fl h' =>
      rw [hd] at post
      cases fl with
      | nx en' => exact fun F' β' H' σ' sm' st' gd' _ => fin_post gd post sm' st' gd' (show RR K F' β' H H' (.d .non) .non from rfl)
      | rt r => exact fun v F' β' H' sm' st' gd' rr => fin_post gd post sm' st' gd' rr
/-! ### constants of the written part -/
def vrK (K : Kf) : Nat → D → Value → Bool
  | 0, _, _ => false
  | n + 1, d, u => match d, u with
    | .non, .none => true
    | .bl b, .bool c => b == c
    | .int i, .int j _ => decide (i = j)
    | .str x, .str y _ => decide (x = y)
    | .tup ds, .ref a => match K.lookup a with
      | some o => (match o.data with
        | .seq its _ => decide (o.cls = .type "tuple") && decide (its.size ≤ 1000) && decide (its.size = ds.length) && (ds.zip its.toList).all fun p => vrK K n p.1 p.2
        | _ => false)
      | none => false
    | _, _ => false
theorem vrK_ok {K : Kf} : ∀ (n : Nat) (d : D) (u : Value), vrK K n d u = true → ∃ v, RelV v u ∧ VR K (fun _ => none) [] d v
  | 0, _, _, h => by cases h
  | n + 1, d, u, h => by
    unfold vrK at h
    split at h
    · exact ⟨.non, rfl, rfl⟩
    · rename_i b c
      cases (show b = c by simpa using h)
      exact ⟨.bl b, rfl, rfl⟩
    · rename_i i j t
      cases of_decide_eq_true h
      exact ⟨.int i, ⟨t, rfl⟩, rfl⟩
    · rename_i i j t
      cases of_decide_eq_true h
      exact ⟨.str i, ⟨t, rfl⟩, rfl⟩
    · rename_i ds a
      split at h
      case h_2 => cases h
      rename_i o ho
      split at h
      case h_2 => cases h
      rename_i its k hd
      simp only [Bool.and_eq_true, decide_eq_true_eq] at h
      obtain ⟨⟨⟨h1, h2⟩, h3⟩, h4⟩ := h
      have each : ∀ (ds : List D) (us : List Value), us.length = ds.length → (ds.zip us).all (fun p => vrK K n p.1 p.2) = true → ∃ vs, Vals vs us ∧ VRs K (fun _ => none) [] ds vs := fun ds => by
        induction ds with
        | nil => intro us hl _; cases us with | nil => exact ⟨[], .nil, rfl⟩ | cons _ _ => simp at hl
        | cons d ds ih =>
          intro us hl ha
          cases us with
          | nil => simp at hl
          | cons u us =>
            rw [List.zip_cons_cons, List.all_cons, Bool.and_eq_true] at ha
            obtain ⟨v, r, w⟩ := vrK_ok n d u ha.1
            obtain ⟨vs, rs, ws⟩ := ih us (by simpa using hl) ha.2
            exact ⟨v :: vs, .cons r rs, ⟨v, vs, rfl, w, ws⟩⟩
      obtain ⟨vs, rs, ws⟩ := each ds its.toList (by rw [Array.length_toList]; exact h3) h4
      exact ⟨.ref a, rfl, a, vs, rfl, .inr (.inr ⟨o, its, k, ho, h1, hd, Nat.le_trans h2 (by decide), rs⟩), ws⟩
    · cases h
end MP
end

section
set_option Elab.async false
set_option linter.all false
set_option maxRecDepth 100000
set_option maxHeartbeats 8000000
namespace MP
open PySem PySem.Spec L2 PyProof.Rows
/-! ### the written part without the script -/
def cutK (K : Kf) (a : Addr) : Kf := K.filter fun p => p.1 != a
theorem cutK_self (a : Addr) : ∀ K : Kf, (cutK K a).lookup a = none
  | [] => rfl
  | (b, o) :: K => by
    unfold cutK
    rw [List.filter_cons]
    split
    · rename_i h
      have h : b ≠ a := by simpa using h
      rw [List.lookup_cons, show (a == b) = false from beq_eq_false_iff_ne.mpr (Ne.symm h)]
      exact cutK_self a K
    · exact cutK_self a K
theorem cutK_ne {a b : Addr} (h : b ≠ a) : ∀ K : Kf, (cutK K a).lookup b = K.lookup b
  | [] => rfl
  | (c, o) :: K => by
    unfold cutK
    rw [List.filter_cons]
    split
    · rw [List.lookup_cons, List.lookup_cons]
      split
      · rfl
      · exact cutK_ne h K
    · rename_i hc
      have hc : c = a := by simpa using hc
      rw [List.lookup_cons, show (b == c) = false from beq_eq_false_iff_ne.mpr (by rw [hc]; exact h)]
      exact cutK_ne h K
section
variable {K : Kf} {a : Addr} {mg : Str → Option Value}
/-- what is no list, is kept -/
theorem cut_at {b : Addr} {o : Obj} (na : ∀ u, K.lookup a = some u → u.cls = .type "list" ∧ ∃ its n, u.data = .seq its n) (h : K.lookup b = some o) (hne : o.cls ≠ .type "list" ∨ ∀ its n, o.data ≠ .seq its n) : (cutK K a).lookup b = some o := by
  rw [cutK_ne ?_ K]
  · exact h
  · intro e
    subst e
    obtain ⟨h1, its, n, h2⟩ := na o h
    rcases hne with q | q
    · exact q h1
    · exact q its n h2
theorem cut_code {cd : Value} {q : Str} (na : ∀ u, K.lookup a = some u → u.cls = .type "list" ∧ ∃ its n, u.data = .seq its n) (h : PySem.W.codeIn K cd q = true) : PySem.W.codeIn (cutK K a) cd q = true := by
  unfold PySem.W.codeIn at h ⊢
  split at h
  · rename_i c
    split at h
    · rename_i x1 x2 vs x3 e
      have e' := cut_at na e (.inr fun its n z => by cases z)
      rw [e']
      exact h
    · cases h
  · cases h
theorem cut_has {nm : Str} {st : Stmt} (na : ∀ u, K.lookup a = some u → u.cls = .type "list" ∧ ∃ its n, u.data = .seq its n) (h : HasM K mg nm st) : HasM (cutK K a) mg nm st := by
  obtain ⟨f, fd, q, F, m⟩ := h.ex
  obtain ⟨oc, od, kV, doc, pm, an, cdv, ct, osl, e, lk, hcd⟩ := F.ex
  have lk' := cut_at na lk (.inr fun its n z => by cases z)
  refine ⟨f, fd, q, ⟨⟨oc, od, kV, doc, pm, an, cdv, ct, osl, e, lk', cut_code na hcd⟩, ?_⟩, m⟩
  unfold PySem.W.keepIn
  simp only [lk']
mutual
theorem cut_vr {F : Hp} {β : List Addr} (na : ∀ u, K.lookup a = some u → u.cls = .type "list" ∧ ∃ its n, u.data = .seq its n) : ∀ (d : D) (v : V), VR K F β d v → VR (cutK K a) F β d v
  | .non, _, h => h
  | .bl _, _, h => h
  | .int _, _, h => h
  | .str _, _, h => h
  | .rp _, _, h => h
  | .tup ds, _, ⟨b, vs, e1, r, q⟩ => by
    refine ⟨b, vs, e1, ?_, cut_vrs na ds vs q⟩
    rcases r with r | r | ⟨o, its, n, lk, c, d, z, w⟩
    · exact .inl r
    · exact .inr (.inl r)
    · exact .inr (.inr ⟨o, its, n, cut_at na lk (.inl (by rw [c]; decide)), c, d, z, w⟩)
  | .lst ds, _, ⟨b, vs, e1, r, q⟩ => ⟨b, vs, e1, r, cut_vrs na ds vs q⟩
  | .ref _, _, h => h
  | .dct _ ds, _, ⟨b, vs, e1, r, z, q⟩ => ⟨b, vs, e1, r, z, cut_vrs na ds vs q⟩
  | .xt ds, _, ⟨b, vs, e1, r, q⟩ => ⟨b, vs, e1, r, cut_vrs na ds vs q⟩
theorem cut_vrs {F : Hp} {β : List Addr} (na : ∀ u, K.lookup a = some u → u.cls = .type "list" ∧ ∃ its n, u.data = .seq its n) : ∀ (ds : List D) (vs : List V), VRs K F β ds vs → VRs (cutK K a) F β ds vs
  | [], _, h => h
  | d :: ds, _, ⟨v, r, e1, h1, h2⟩ => ⟨v, r, e1, cut_vr na d v h1, cut_vrs na ds r h2⟩
end
theorem cut_prog {cs : List D} {cn : List Str} {fds : List FD} {sts : List Stmt} (na : ∀ u, K.lookup a = some u → u.cls = .type "list" ∧ ∃ its n, u.data = .seq its n) (O : ProgOk K mg cs cn fds sts) : ProgOk (cutK K a) mg cs cn fds sts :=
  ⟨O.chk, O.len, fun p hp => cut_has na (O.has p hp), O.blt, fun j x e => let ⟨u, v, d, h1, h2, h3, h4⟩ := O.cst j x e; ⟨u, v, d, h1, h2, h3, cut_vr na d v h4⟩⟩
end
theorem rel_ints : ∀ {vs : List Value} {ns : List Int}, IntsAre vs ns → Vals (ns.map V.int) vs
  | _, _, .nil => .nil
  | _, _, .cons n t h => .cons ⟨t, rfl⟩ (rel_ints h)
/-- THE END: a law whose own run says True -/
theorem law_of {l : PySem.W.OpenLaw} {q : Program} {loose : List Str} {XP : (Str → Option Value) → Heap → Prop} {YP : World → Heap → Prop} {d : DefRec} {Kp : Params → Kf} {cs : List D} {cn : List Str} {fds : List FD} {sts : List Stmt} {i k : Nat} {fd : FD}
    (hn : l.most = some 63) (hdf : d.params.defaults = []) (hr : Room k callerA) (hY : ∀ (w : World) (h : Heap), YP w h → (Kp w.params).In h)
    (O : ∀ (w : World) (mg : Str → Option Value) (h : Heap), (Kp w.params).In h → h.Ns mainGlobals mg → ProgOk (Kp w.params) mg cs cn fds sts)
    (hi : fds[i]? = some fd) (hnm : fd.name = d.name) (hps : fd.ps.length = 1)
    (run : ∀ ns : List Int, ns.length ≤ 63 → ∃ h', runF cs fds k i [.lst (ns.map D.int)] [] = .ok (.d (.bl true)) h') :
    PySem.W.WalkO q loose XP YP l.row.toRowW d [] (fun f vs => PySem.call f vs) := by
  refine Att.attach_call hn hdf fun w s₀ s₁ mg mb fa o pm cd doc a vs ns G Y ho hd hcd hmg hobj hints hlen hg => ?_
  have KX := hY w _ Y
  have na : ∀ u, (Kp w.params).lookup a = some u → u.cls = .type "list" ∧ ∃ its n, u.data = .seq its n := fun u e => by
    have z := KX a u e
    rw [hobj] at z
    cases z
    exact ⟨rfl, _, _, rfl⟩
  have O' := cut_prog na (O w mg _ KX G.T.g)
  generalize hK : cutK (Kp w.params) a = K' at O'
  have KX' : K'.In s₁.heap := fun b u e => by
    rw [← hK] at e
    by_cases hb : b = a
    · subst hb; rw [cutK_self] at e; cases e
    · rw [cutK_ne hb] at e; exact KX b u e
  have nK : K'.lookup a = none := by rw [← hK]; exact cutK_self a _
  -- the law's own def
  have hlt : i < sts.length := by rw [← O'.len]; exact (List.getElem?_eq_some_iff.mp hi).1
  have hst : sts[i]? = some sts[i] := List.getElem?_eq_getElem hlt
  obtain ⟨f, fdt, qn, Fu, hm⟩ := (O'.has (fd, sts[i]) (List.mem_of_getElem? (i := i) (by rw [List.getElem?_zip_eq_some]; exact ⟨hi, hst⟩))).ex
  have ef : f = fa := by
    rw [show (fd, sts[i]).1.name = d.name from hnm, hmg] at hm
    cases hm; rfl
  subst ef
  -- the script is told, for good
  let ob : Obj := { cls := .type "list", data := .seq vs.toArray }
  let H : Hp := fun b => if b = a then some (.frz ob (.lst (ns.map V.int))) else none
  have Ha : H a = some (.frz ob (.lst (ns.map V.int))) := if_pos rfl
  have Hn : ∀ b, b ≠ a → H b = none := fun b hb => if_neg hb
  have rv := rel_ints hints
  have hz : (ns.map V.int).length ≤ sizeLine := by rw [List.length_map]; exact Nat.le_trans hlen (by decide)
  have hok : HOk l.prog w H s₁.heap := fun b u e => by
    by_cases hb : b = a
    · subst hb
      rw [Ha] at e
      cases e
      exact ⟨hobj, hz, vs, _, rv, hobj⟩
    · rw [Hn b hb] at e; cases e
  have notA : ∀ {b : Addr} {u : Obj}, s₁.heap.get? b = some u → (∀ its n, u.data ≠ .seq its n) → H b = none := fun {b u} e nd => Hn b fun z => by
    subst z
    rw [hobj] at e
    cases e
    exact nd _ _ rfl
  have nsB : ∀ {b : Addr} {m : Str → Option Value}, s₁.heap.Ns b m → (hidT s₁.heap H).Ns b m := fun {b m} ⟨u, es, ep, e, dd, r⟩ => ⟨u, es, ep, hidT_get e (notA e fun its n z => by rw [dd] at z; cases z), dd, r⟩
  have inB : K'.In (hidT s₁.heap H) := fun b u e => hidT_get (KX' b u e) (Hn b fun z => by subst z; rw [nK] at e; cases e)
  have md : Mod K' mg (hidT s₁.heap H) := ⟨inB, nsB G.T.g, ⟨mb, nsB G.T.b, G.T.builtins⟩, let ⟨mc, h1, h2⟩ := G.T.nolimit; ⟨mc, nsB h1, h2⟩⟩
  have env0 : Env0 l.prog w K' mg (hidT s₁.heap H) callerA [] s₁ H := ⟨rfl, md, fun b u e => of_hidT e, Nat.le_of_eq (hidT_size _ _), trivial, (fun b hb => absurd (show b ∈ ([] : List Addr) from hb) List.not_mem_nil), hok, .of_eq hg⟩
  have M := prog_m (P := l.prog) (w := w) (base := hidT s₁.heap H) O' k i fd sts[i] f fdt qn hi hst Fu
  have wi : VRs K' H [] (ns.map D.int) (ns.map V.int) := VRs.of_ints ns
  obtain ⟨h', hrun⟩ := run ns hlen
  have sp : spR K' (runF cs fds k) i fd.ps.length [.ref a] H (fun v _ => v = .bl true) fun _ _ _ => False := by
    refine ⟨hps.symm, H, [], [], [.lst (ns.map D.int)], Same.refl _, ⟨List.nodup_nil, rfl, fun n b o z => by simp at z⟩, ⟨.ref a, [], rfl, ⟨a, ns.map V.int, rfl, ⟨by simp, .inr ⟨ob, Ha⟩⟩, wi⟩, rfl⟩, ?_⟩
    rw [hrun]
    exact fun v F' β' H' _ _ _ rr => rr
  have hc := List.all_eq_true.mp O'.chk (fd, sts[i]) (List.mem_of_getElem? (i := i) (by rw [List.getElem?_zip_eq_some]; exact ⟨hi, hst⟩))
  unfold chkF at hc
  rw [Bool.and_eq_true, Bool.and_eq_true] at hc
  have sim : Simple fdt fd.ps := by
    obtain ⟨_, _, _, _, _, _, _, _, _, rfl, _, _⟩ := Fu.ex
    exact sim_of hc.1.1
  obtain ⟨x, ex⟩ : ∃ x, fd.ps = [x] := by
    match hp : fd.ps, hps with
    | [x], _ => exact ⟨x, rfl⟩
  have bd : BindsTo s₁ fdt ⟨[.ref a], []⟩ (fd.ps.zip [.ref a]) := by
    have z := binds_of (fd := fdt) (ps := fd.ps) (ks := []) (us := [.ref a]) (ws := []) (pm := [0]) sim (by rw [ex]; unfold pmOk; simp) rfl s₁
    exact z
  refine codeAny_mono (M.run callerA [] s₁ H ⟨[.ref a], []⟩ [.ref a] [.ref a] _ _ hr rfl env0 bd (.cons rfl .nil) sp) fun r s' z => ?_
  match r, z with
  | .ok (.ret u), ⟨v, H', os, bare, un, hok', r', q⟩ =>
    have q' : v = .bl true := q
    subst q'
    obtain rfl : u = Value.bool true := r'
    refine ⟨rfl, OldK.of_keep fun b u e => ?_, os, bare⟩
    by_cases hb : b = a
    · subst hb
      obtain ⟨e1, _⟩ := hok b _ Ha
      obtain ⟨e2, _⟩ := hok' b _ (un.frzs b ob _ Ha)
      rw [e] at e1; cases e1
      exact e2
    · exact un.keep b u e (Hn b hb) (fun z => absurd (show b ∈ ([] : List Addr) from z) List.not_mem_nil) (by simp)
end MP
namespace MP
open PySem PySem.Spec L2 PyProof.Rows
/-! ### facts of the written part, put together -/
section
variable {K : Kf} {h : Heap} {mg : Str → Option Value}
theorem hasM_mk (X : K.In h) (G : h.Ns mainGlobals mg) {nm : Str} (q : Str) {st : Stmt} {f : Addr} {oc : Value} {od an : Option Addr} {osl : Array (Option Value)} {kV doc pm cdv ct : Value}
    (a : PySem.W.nsIn K mainGlobals nm = some (some (.ref f))) (l : K.lookup f = some ⟨oc, od, .func (PySem.W.fnOf q q (defArgs st) (defBody st) (defScope st) .none kV doc pm an cdv ct), osl⟩) (c : PySem.W.codeIn K cdv q = true) (k : PySem.W.keepIn K (.ref f) = true) : HasM K mg nm st :=
  ⟨⟨f, _, q, fun_mk l c k, PySem.W.mg_of X G a⟩⟩
theorem HasM.named {nm nm' : Str} {st : Stmt} (h : HasM K mg nm' st) (e : nm = nm') : HasM K mg nm st := e ▸ h
def HasL (K : Kf) (mg : Str → Option Value) : List FD → List Stmt → Prop
  | fd :: fs, st :: ss => HasM K mg fd.name st ∧ HasL K mg fs ss
  | _, _ => True
theorem HasL.all : ∀ {fs : List FD} {ss : List Stmt}, HasL K mg fs ss → ∀ p ∈ fs.zip ss, HasM K mg p.1.name p.2
  | [], _, _, p, m => by simp at m
  | _ :: _, [], _, p, m => by simp at m
  | fd :: fs, st :: ss, ⟨h1, h2⟩, p, m => by
    rw [List.zip_cons_cons] at m
    rcases List.mem_cons.mp m with e | m
    · subst e; exact h1
    · exact HasL.all h2 p m
theorem blt_mk (X : K.In h) (G : h.Ns mainGlobals mg) (h1 : PySem.W.nsIn K mainGlobals "len" = some none) (h2 : PySem.W.nsIn K mainGlobals "abs" = some none) (h3 : PySem.W.nsIn K mainGlobals "sum" = some none) (h4 : PySem.W.nsIn K mainGlobals "min" = some none) (h5 : PySem.W.nsIn K mainGlobals "max" = some none)
    (h6 : PySem.W.nsIn K mainGlobals "sorted" = some none) (h7 : PySem.W.nsIn K mainGlobals "list" = some none) (h8 : PySem.W.nsIn K mainGlobals "tuple" = some none) (h9 : PySem.W.nsIn K mainGlobals "int" = some none) (h10 : PySem.W.nsIn K mainGlobals "str" = some none) (h11 : PySem.W.nsIn K mainGlobals "repr" = some none)
    (h12 : PySem.W.nsIn K mainGlobals "any" = some none) (h13 : PySem.W.nsIn K mainGlobals "all" = some none) (h14 : PySem.W.nsIn K mainGlobals "isinstance" = some none) (h15 : PySem.W.nsIn K mainGlobals "bool" = some none) (h16 : PySem.W.nsIn K mainGlobals "set" = some none) (h17 : PySem.W.nsIn K mainGlobals "zip" = some none)
    (h18 : PySem.W.nsIn K mainGlobals "range" = some none) (h19 : PySem.W.nsIn K mainGlobals "enumerate" = some none) : ∀ x, x ∈ bltNames → mg x = none := by
  intro x m
  unfold bltNames at m
  have no := fun {n : Str} (e : PySem.W.nsIn K mainGlobals n = some none) => PySem.W.mg_none_of X G e
  simp only [List.mem_cons, List.not_mem_nil, or_false] at m
  rcases m with e | e | e | e | e | e | e | e | e | e | e | e | e | e | e | e | e | e | e
  · rw [e, eq_len]; exact no h1
  · rw [e, eq_abs]; exact no h2
  · rw [e, eq_sum]; exact no h3
  · rw [e, eq_min]; exact no h4
  · rw [e, eq_max]; exact no h5
  · rw [e, eq_sorted]; exact no h6
  · rw [e, eq_list]; exact no h7
  · rw [e, eq_tuple]; exact no h8
  · rw [e, eq_int]; exact no h9
  · rw [e, eq_str]; exact no h10
  · rw [e, eq_repr]; exact no h11
  · rw [e, eq_any]; exact no h12
  · rw [e, eq_all]; exact no h13
  · rw [e, eq_isinstance]; exact no h14
  · rw [e, eq_bool]; exact no h15
  · rw [e, eq_set]; exact no h16
  · rw [e, eq_zip]; exact no h17
  · rw [e, eq_range]; exact no h18
  · rw [e, eq_enumerate]; exact no h19
def HasC (K : Kf) (mg : Str → Option Value) : List Str → List D → Prop
  | x :: xs, d :: ds => (∃ u, mg x = some u ∧ vrK K 6 d u = true) ∧ HasC K mg xs ds
  | [], _ => True
  | _ :: _, [] => False
theorem HasC.all : ∀ {cn : List Str} {cs : List D}, HasC K mg cn cs → ∀ (j : Nat) (x : Str), cn[j]? = some x → ∃ u v d, cs[j]? = some d ∧ mg x = some u ∧ RelV v u ∧ VR K (fun _ => none) [] d v
  | [], _, _, j, x, e => by simp at e
  | _ :: _, [], h, _, _, _ => h.elim
  | y :: xs, d :: ds, ⟨⟨u, h1, h2⟩, _⟩, 0, x, e => by
    cases (show y = x by simpa using e)
    obtain ⟨v, r, w⟩ := vrK_ok 6 d u h2
    exact ⟨u, v, d, rfl, h1, r, w⟩
  | y :: xs, d :: ds, ⟨_, h⟩, j + 1, x, e => by
    obtain ⟨u, v, d', e1, e2⟩ := HasC.all h j x (by simpa using e)
    exact ⟨u, v, d', by simpa using e1, e2⟩
theorem hasC_mk (X : K.In h) (G : h.Ns mainGlobals mg) {x nm : Str} {d : D} {u : Value} (a : PySem.W.nsIn K mainGlobals nm = some (some u)) (v : vrK K 6 d u = true) (e : x = nm) : ∃ u, mg x = some u ∧ vrK K 6 d u = true := ⟨u, by rw [e]; exact PySem.W.mg_of X G a, v⟩
end
end MP
end

section
set_option Elab.async false
set_option linter.all false
set_option maxRecDepth 100000
set_option maxHeartbeats 4000000
namespace MP
open PySem
/-! ## the pot of draws, as the laws k84..k99 have it -/
def bPot : Ss := (.cons (.asg (.tp (.cons (.nm 2) (.cons (.nm 3) .nil))) (.tup (.cons (.lc (.bin .Add (.bin .Mult (.c (.int 2)) (.bi .abs (.cons (.v 1) .nil))) (.bi .int (.cons (.cmp .Lt (.v 1) (.c (.int 0))) .nil))) (.nm 1) (.e (.sl false true (.v 0) .none (.c (.int 63)))) .nil [1]) (.cons (.bin .Add (.c (.int 19591)) (.bin .Mult (.c (.int 71)) (.bi .len (.cons (.v 0) .nil)))) .nil)))) (.cons (.for (.nm 1) (.e (.v 2)) (.cons (.asg (.nm 3) (.bin .Mod (.bin .Add (.bin .Add (.bin .Mult (.v 3) (.c (.int 69069))) (.v 1)) (.c (.int 11))) (.c (.int 4294967291)))) .nil)) (.cons (.ret (.al (.lst (.cons (.al (.lc (.v 1) (.nm 1) (.e (.v 2)) (.cons (.cmp .Gt (.v 1) (.bin .Pow (.c (.int 10)) (.c (.int 12)))) .nil) [1])) (.cons (.v 3) (.cons (.c (.int 0)) .nil)))))) .nil)))
def bOf : Ss := (.cons (.ite (.cmp .Lt (.v 1) (.c (.int 2))) (.cons (.ret (.c (.int 0))) .nil) .nil) (.cons (.ite (.cmp .NotEq (.ix (.v 0) (.c (.int 0))) (.lst .nil)) (.cons (.asg (.nm 3) (.meth .pop (.ix (.v 0) (.c (.int 0))) .nil)) (.cons (.ite (.cmp .GtE (.v 3) (.v 1)) (.cons (.exp (.meth .append (.ix (.v 0) (.c (.int 0))) (.cons (.bin .FloorDiv (.v 3) (.v 1)) .nil))) .nil) .nil) (.cons (.ret (.bin .Mod (.v 3) (.v 1))) .nil))) .nil) (.cons (.asg (.sb (.v 0) (.c (.int 2))) (.bin .Add (.ix (.v 0) (.c (.int 2))) (.c (.int 1)))) (.cons (.asg (.nm 2) (.bin .Mod (.bin .Add (.ix (.v 0) (.c (.int 1))) (.bin .Mult (.ix (.v 0) (.c (.int 2))) (.c (.int 2654435761)))) (.c (.int 4294967279)))) (.cons (.asg (.nm 2) (.bin .Mod (.bin .Add (.bin .Add (.bin .Mult (.v 2) (.v 2)) (.bin .Mult (.ix (.v 0) (.c (.int 2))) (.c (.int 40503)))) (.c (.int 5))) (.c (.int 4294967231)))) (.cons (.asg (.nm 2) (.bin .Mod (.bin .Add (.bin .Mult (.v 2) (.v 2)) (.ix (.v 0) (.c (.int 1)))) (.c (.int 4294967291)))) (.cons (.ret (.bin .Mod (.bin .FloorDiv (.v 2) (.c (.int 256))) (.v 1))) .nil)))))))
def pot (cells : List Int) (m c : Int) (rest : Hh) : Hh := .lst (cells.map D.int) :: .lst [.ref 0, .int m, .int c] :: rest
theorem mulOk_r {i j : Int} (h : j.natAbs < 18446744073709551616) : mulOk i j = true := by
  unfold mulOk
  rw [Nat.blt_eq.mpr h]
  simp
theorem mulOk_l {i j : Int} (h : i.natAbs < 18446744073709551616) : mulOk i j = true := by
  unfold mulOk
  rw [Nat.blt_eq.mpr h]
  simp
theorem py_ints (h : Hh) (k : Nat) : ∀ ns : List Int, allO ((ns.map D.int).map (py h (k + 1))) = some (ns.map PyData.int)
  | [] => rfl
  | n :: ns => by
    show allO (some (PyData.int n) :: (ns.map D.int).map (py h (k + 1))) = _
    unfold allO
    rw [py_ints h k ns]
    rfl
theorem lay_ints : ∀ cells : List Int, PyData.canLayAll0 (cells.map PyData.int) = true
  | [] => by simp only [List.map_nil, PyData.canLayAll0]
  | c :: r => by simp only [List.map_cons, PyData.canLayAll0, PyData.canLay0, lay_ints r, Bool.and_self]
theorem dep_ints : ∀ cells : List Int, PyData.depthAll (cells.map PyData.int) ≤ 1
  | [] => by simp only [List.map_nil, PyData.depthAll]; omega
  | c :: r => by
    have := dep_ints r
    simp only [List.map_cons, PyData.depthAll, PyData.depth]
    omega
theorem shaped_ints (cells : List Int) : SeqAt.shaped (.list (cells.map PyData.int)) = true := by
  have := dep_ints cells
  have e1 : (PyData.list (cells.map PyData.int)).canLay0 = true := by simp only [PyData.canLay0, lay_ints]
  have e2 : (PyData.list (cells.map PyData.int)).depth ≤ 64 := by simp only [PyData.depth]; omega
  show (_ && decide _) = true
  rw [e1, decide_eq_true e2]; rfl
theorem eq_nil (cells : List Int) (m c : Int) (rest : Hh) : eqD (.d (.ref 0)) (.fl []) (pot cells m c rest) = some (decide (cells = [])) := by
  have e1 : py (pot cells m c rest) deep (R.d (.ref 0)).toD = some (.list (cells.map PyData.int)) := by
    show (match allO ((cells.map D.int).map (py (pot cells m c rest) 39)) with
      | some l => some (PyData.list l)
      | none => none) = _
    rw [py_ints _ 38 cells]
  have e2 : py (pot cells m c rest) deep (R.fl []).toD = some (.list []) := rfl
  have e3 : SeqAt.shaped (.list []) = true := shaped_ints []
  show (match py (pot cells m c rest) deep (R.d (.ref 0)).toD, py (pot cells m c rest) deep (R.fl []).toD with
    | some a, some b => if SeqAt.shaped a && SeqAt.shaped b then some (PyData.eqv a b) else none
    | _, _ => none) = _
  rw [e1, e2]
  simp only [shaped_ints, e3, Bool.and_self, if_true]
  cases cells with
  | nil => simp only [List.map_nil, PyData.eqv, PyData.eqvAll, decide_true]
  | cons x r => simp only [List.map_cons, PyData.eqv, PyData.eqvAll]; rfl
/-! ### steps -/
theorem seq_nx {a b : DenS} {en en' : En} {h h' : Hh} (e : a en h = .ok (.nx en') h') : kSeq a b en h = b en' h' := by unfold kSeq; rw [e]
theorem seq_rt {a b : DenS} {en : En} {r : R} {h h' : Hh} (e : a en h = .ok (.rt r) h') : kSeq a b en h = .ok (.rt r) h' := by unfold kSeq; rw [e]
theorem ite_t {t : Den} {a b : DenS} {en : En} {h h' : Hh} {r : R} (e : t en h = .ok r h') (er : truth h' r = some true) : kIteS t a b en h = a en h' := by unfold kIteS; rw [e]; show (match truth h' r with | some true => _ | some false => _ | none => _) = _; rw [er]
theorem ite_f {t : Den} {a b : DenS} {en : En} {h h' : Hh} {r : R} (e : t en h = .ok r h') (er : truth h' r = some false) : kIteS t a b en h = b en h' := by unfold kIteS; rw [e]; show (match truth h' r with | some true => _ | some false => _ | none => _) = _; rw [er]
theorem asg_ok {t : DenT} {e : Den} {en en' : En} {h h' h'' : Hh} {r : R} (e1 : e en h = .ok r h') (e2 : t en r h' = .ok en' h'') : kAsg t e en h = .ok (.nx en') h'' := by
  unfold kAsg; rw [e1]; show (t en r h').bind _ = _; rw [e2]; rfl
section
variable (cl : Cl) (cs : List D)
theorem mul_l (i j : Int) (h : Hh) (e : j.natAbs < 18446744073709551616) : mulD (.d (.int i)) (.d (.int j)) h = some (.d (.int (i * j))) := by
  show (if mulOk i j then _ else none) = _
  rw [mulOk_r e]; rfl
theorem mul_lo (i j : Int) (h : Hh) (e : i.natAbs < 18446744073709551616) : mulD (.d (.int i)) (.d (.int j)) h = some (.d (.int (i * j))) := by
  show (if mulOk i j then _ else none) = _
  rw [mulOk_l e]; rfl
theorem mod_p (i j : Int) (h : Hh) (e : 0 < j) : modD (.d (.int i)) (.d (.int j)) h = some (.d (.int (i % j))) := by
  show (if 0 < j then _ else none) = _
  rw [if_pos e]
theorem log_lt {j : Int} (e : j.natAbs < 18446744073709551616) : j.natAbs.log2 < 9000 := by
  by_cases z : j.natAbs = 0
  · rw [z]; decide
  · have := (Nat.log2_lt z (k := 64)).mpr (by omega)
    omega
theorem fdiv_p (i j : Int) (h : Hh) (e : 0 < j) (e2 : j.natAbs < 18446744073709551616) : fdivD (.d (.int i)) (.d (.int j)) h = some (.d (.int (i / j))) := by
  show (if 0 < j ∧ j.natAbs.log2 < 9000 then some (R.d (D.int (i / j))) else _) = _
  rw [if_pos ⟨e, log_lt e2⟩]
end
end MP
end

section
set_option Elab.async false
set_option linter.all false
set_option maxRecDepth 100000
set_option maxHeartbeats 4000000
namespace MP
open PySem
theorem ok_bind {α β : Type} (a : α) (h : Hh) (k : α → Hh → Out β) : (Out.ok a h).bind k = k a h := rfl
theorem pop_last (l : List Int) (x : Int) (m c : Int) (rest : Hh) : methD .pop (.d (.ref 0)) [] (pot (l ++ [x]) m c rest) = .ok (.d (.int x)) (pot l m c rest) := by
  show (match ((l ++ [x]).map D.int)[((l ++ [x]).map D.int).length - 1]? with
    | some y => Out.ok (R.d y) ((pot (l ++ [x]) m c rest).set 0 (.lst ((l ++ [x]).map D.int).dropLast))
    | none => .no) = _
  have e1 : ((l ++ [x]).map D.int)[((l ++ [x]).map D.int).length - 1]? = some (.int x) := by simp
  have e2 : ((l ++ [x]).map D.int).dropLast = l.map D.int := by simp
  rw [e1, e2]; rfl
theorem app_last (l : List Int) (x : Int) (m c : Int) (rest : Hh) (hl : l.length < sizeLine) : methD .append (.d (.ref 0)) [.d (.int x)] (pot l m c rest) = .ok (.d .non) (pot (l ++ [x]) m c rest) := by
  show (if lowD 0 (.int x) ∧ (l.map D.int).length < sizeLine then Out.ok (R.d .non) ((pot l m c rest).set 0 (.lst (l.map D.int ++ [.int x]))) else .no) = _
  rw [if_pos ⟨rfl, by rw [List.length_map]; exact hl⟩]
  show _ = Out.ok _ (O.lst ((l ++ [x]).map D.int) :: _)
  rw [List.map_append]; rfl
theorem vl0 (cells : List Int) (m c : Int) (rest : Hh) : viewL (pot cells m c rest) (.d (.ref 0)) = some (cells.map D.int) := rfl
theorem truth_bl (h : Hh) (b : Bool) : truth h (.d (.bl b)) = some b := rfl
theorem ix0 (cells : List Int) (m c : Int) (rest : Hh) : ixD (.d (.ref 1)) (.d (.int 0)) (pot cells m c rest) = some (.ref 0) := rfl
theorem ix1 (cells : List Int) (m c : Int) (rest : Hh) : ixD (.d (.ref 1)) (.d (.int 1)) (pot cells m c rest) = some (.int m) := rfl
theorem ix2 (cells : List Int) (m c : Int) (rest : Hh) : ixD (.d (.ref 1)) (.d (.int 2)) (pot cells m c rest) = some (.int c) := rfl
theorem sb2 (en : En) (cells : List Int) (m c d : Int) (rest : Hh) : sbOut (.int d) en (.d (.ref 1)) (.d (.int 2)) (pot cells m c rest) = .ok en (pot cells m d rest) := rfl
theorem add_i (i j : Int) (h : Hh) : addD (.d (.int i)) (.d (.int j)) h = some (.d (.int (i + j))) := rfl
theorem sub_i (i j : Int) (h : Hh) : subD (.d (.int i)) (.d (.int j)) h = some (.d (.int (i - j))) := rfl
theorem lt_i (i j : Int) (h : Hh) : ltD (.d (.int i)) (.d (.int j)) h = some (decide (i < j)) := rfl
theorem ge_i (i j : Int) (h : Hh) : geD (.d (.int i)) (.d (.int j)) h = some (decide (j ≤ i)) := rfl
theorem eq_i (i j : Int) (h : Hh) : eqD (.d (.int i)) (.d (.int j)) h = some (decide (i = j)) := rfl
theorem dOut_s (d : D) (h : Hh) : dOut (some d) h = .ok (.d d) h := rfl
theorem ofO_s {α : Type} (d : α) (h : Hh) : ofO (some d) h = .ok d h := rfl
theorem blR_s (d : Bool) (h : Hh) : blR (some d) h = .ok (.d (.bl d)) h := rfl
theorem toD_d (d : D) : (R.d d).toD = d := rfl
theorem toD_fl (d : List D) : (R.fl d).toD = .lst d := rfl
theorem lst_nil (en : En) (h : Hh) : kLst kNil en h = .ok (.fl []) h := rfl
section
variable (cl : Cl) (cs : List D)
theorem draw (cells : List Int) (m c : Int) (rest : Hh) (many : Int) (hm : 2 ≤ many) (hM : many < 18446744073709551616) (hc : cells.length ≤ 63) :
    ∃ z cells' c', dSs cl cs bOf [some (.ref 1), some (.int many), none, none] (pot cells m c rest) = .ok (.rt (.d (.int z))) (pot cells' m c' rest) ∧ 0 ≤ z ∧ z < many ∧ cells'.length ≤ 63 := by
  have e1 : ¬ many < 2 := by omega
  have hp : 0 < many := by omega
  have hn : many.natAbs < 18446744073709551616 := by omega
  have fd (i : Int) (h : Hh) := fdiv_p i many h hp hn
  have md (i : Int) (h : Hh) := mod_p i many h hp
  rcases List.eq_nil_or_concat cells with rfl | ⟨l, x, rfl⟩
  · have key : ∀ n1 n2 n3 : Int, n1 = (m + (c + 1) * 2654435761) % 4294967279 → n2 = (n1 * n1 + (c + 1) * 40503 + 5) % 4294967231 → n3 = (n2 * n2 + m) % 4294967291 → dSs cl cs bOf [some (.ref 1), some (.int many), none, none] (pot [] m c rest) = .ok (.rt (.d (.int (n3 / 256 % many)))) (pot [] m (c + 1) rest) := by
      intro n1 n2 n3 q1 q2 q3
      have b1 : n1.natAbs < 18446744073709551616 := by omega
      have b2 : n2.natAbs < 18446744073709551616 := by omega
      have t1 (h : Hh) := mul_l n1 n1 h b1
      have t2 (h : Hh) := mul_l n2 n2 h b2
      have t3 (h : Hh) := mul_l (c + 1) 2654435761 h (by decide)
      have t4 (h : Hh) := mul_l (c + 1) 40503 h (by decide)
      have t5 (i : Int) (h : Hh) := mod_p i 4294967279 h (by decide)
      have t6 (i : Int) (h : Hh) := mod_p i 4294967231 h (by decide)
      have t7 (i : Int) (h : Hh) := mod_p i 4294967291 h (by decide)
      have t8 (i : Int) (h : Hh) := fdiv_p i 256 h (by decide) (by decide)
      simp only [bOf, dSs, dS, dE, dEs, dT, kSeq, kIteS, kAsg, kExp, kRet, kPass, kCmp, kBin, kIx, lst_nil, kNil, kCons, kMeth, vl0, kSb, kNm, kV, kC, ok_bind, cmpD, binD, neD, eq_nil, truth_bl, ix0, ix1, ix2, sb2, add_i, sub_i, lt_i, ge_i, eq_i, dOut_s, ofO_s, blR_s, toD_d, e1, t3, t4, t5, t8, fd, md,
        List.getElem?_cons_succ, List.getElem?_cons_zero, List.set_cons_succ, List.set_cons_zero, List.length_cons, List.length_nil, Nat.reduceAdd, Nat.reduceLT, if_true, decide_true, decide_false, Bool.not_true, ← q1, t1, t6, ← q2, t2, t7, ← q3]
    have k3 := key _ _ _ rfl rfl rfl
    exact ⟨_, [], c + 1, k3, Int.emod_nonneg _ (by omega), Int.emod_lt_of_pos _ hp, by simp⟩
  · rw [List.concat_eq_append] at hc ⊢
    have nn : decide (l ++ [x] = []) = false := by simp
    have hl : l.length + 1 ≤ 63 := by simpa using hc
    by_cases g : many ≤ x
    · refine ⟨x % many, l ++ [x / many], c, ?_, Int.emod_nonneg _ (by omega), Int.emod_lt_of_pos _ hp, by simpa using hc⟩
      have ap := app_last l (x / many) m c rest (by unfold sizeLine; omega)
      simp only [bOf, dSs, dS, dE, dEs, dT, kSeq, kIteS, kAsg, kExp, kRet, kPass, kCmp, kBin, kIx, lst_nil, kNil, kCons, kMeth, vl0, kSb, kNm, kV, kC, ok_bind, cmpD, binD, neD, eq_nil, truth_bl, ix0, ix1, ix2, sb2, add_i, sub_i, lt_i, ge_i, eq_i, dOut_s, ofO_s, blR_s, toD_d, e1, fd, md, g, nn, pop_last, ap,
        List.getElem?_cons_succ, List.getElem?_cons_zero, List.set_cons_succ, List.set_cons_zero, List.length_cons, List.length_nil, Nat.reduceAdd, Nat.reduceLT, if_true, decide_true, decide_false, Bool.not_true, Bool.not_false]
    · refine ⟨x % many, l, c, ?_, Int.emod_nonneg _ (by omega), Int.emod_lt_of_pos _ hp, by omega⟩
      simp only [bOf, dSs, dS, dE, dEs, dT, kSeq, kIteS, kAsg, kExp, kRet, kPass, kCmp, kBin, kIx, lst_nil, kNil, kCons, kMeth, vl0, kSb, kNm, kV, kC, ok_bind, cmpD, binD, neD, eq_nil, truth_bl, ix0, ix1, ix2, sb2, add_i, sub_i, lt_i, ge_i, eq_i, dOut_s, ofO_s, blR_s, toD_d, e1, fd, md, g, nn, pop_last,
        List.getElem?_cons_succ, List.getElem?_cons_zero, List.set_cons_succ, List.set_cons_zero, List.length_cons, List.length_nil, Nat.reduceAdd, Nat.reduceLT, if_true, decide_true, decide_false, Bool.not_true, Bool.not_false]
end
end MP
end

section
set_option Elab.async false
set_option linter.all false
set_option maxRecDepth 100000
set_option maxHeartbeats 4000000
namespace MP
open PySem
theorem lc_map {step : D → Hh → Out (Option D)} {f : Int → Int} {h : Hh} (hs : ∀ x, step (.int x) h = .ok (some (.int (f x))) h) :
    ∀ (xs : List Int) (n : Nat) (acc : List D), xs.length < n → lcLoop step n (.st (xs.map D.int)) acc h = .ok (acc.reverse ++ (xs.map f).map D.int) h
  | [], 0, acc, l => absurd l (by simp)
  | [], n + 1, acc, _ => by
    show Out.ok acc.reverse h = _
    simp
  | x :: xs, 0, acc, l => absurd l (by simp)
  | x :: xs, n + 1, acc, l => by
    show (match step (.int x) h with
      | .ok (some y) h' => lcLoop step n (.st (xs.map D.int)) (y :: acc) h'
      | .ok none h' => lcLoop step n (.st (xs.map D.int)) acc h'
      | .er e h' => .er e h'
      | .no => .no) = _
    rw [hs]
    show lcLoop step n (.st (xs.map D.int)) _ h = _
    rw [lc_map hs xs n _ (by simp only [List.length_cons] at l; omega)]
    simp
theorem lc_filter {step : D → Hh → Out (Option D)} {p : Int → Bool} {h : Hh} (hs : ∀ x, step (.int x) h = .ok (if p x then some (.int x) else none) h) :
    ∀ (xs : List Int) (n : Nat) (acc : List D), xs.length < n → lcLoop step n (.st (xs.map D.int)) acc h = .ok (acc.reverse ++ (xs.filter p).map D.int) h
  | [], 0, acc, l => absurd l (by simp)
  | [], n + 1, acc, _ => by
    show Out.ok acc.reverse h = _
    simp
  | x :: xs, 0, acc, l => absurd l (by simp)
  | x :: xs, n + 1, acc, l => by
    show (match step (.int x) h with
      | .ok (some y) h' => lcLoop step n (.st (xs.map D.int)) (y :: acc) h'
      | .ok none h' => lcLoop step n (.st (xs.map D.int)) acc h'
      | .er e h' => .er e h'
      | .no => .no) = _
    have l' : xs.length < n := by simp only [List.length_cons] at l; omega
    rw [hs]
    cases hp : p x with
    | true =>
      show lcLoop step n (.st (xs.map D.int)) (.int x :: acc) h = _
      rw [lc_filter hs xs n _ l']
      simp [hp]
    | false =>
      show lcLoop step n (.st (xs.map D.int)) acc h = _
      rw [lc_filter hs xs n _ l']
      simp [hp]
/-- a loop over a fixed list that never returns, with what stays true -/
theorem for_st {step : D → En → Hh → Out Fl} (I : En → Hh → Prop) :
    ∀ (ds : List D) (n : Nat) (en : En) (h : Hh), (∀ d, d ∈ ds → ∀ en h, I en h → ∃ en' h', step d en h = .ok (.nx en') h' ∧ I en' h') → ds.length < n → I en h → ∃ en' h', forLoop step n (.st ds) en h = .ok (.nx en') h' ∧ I en' h'
  | [], 0, en, h, _, l, _ => absurd l (by simp)
  | [], n + 1, en, h, _, _, i => ⟨en, h, rfl, i⟩
  | x :: xs, 0, en, h, _, l, _ => absurd l (by simp)
  | x :: xs, n + 1, en, h, hs, l, i => by
    obtain ⟨en1, h1, e1, i1⟩ := hs x (List.mem_cons_self ..) en h i
    obtain ⟨en2, h2, e2, i2⟩ := for_st I xs n en1 h1 (fun d hd => hs d (List.mem_cons_of_mem _ hd)) (by simp only [List.length_cons] at l; omega) i1
    refine ⟨en2, h2, ?_, i2⟩
    show (match step x en h with
      | .ok (.nx en') h' => forLoop step n (.st xs) en' h'
      | .ok (.rt r) h' => .ok (.rt r) h'
      | .er e h' => .er e h'
      | .no => .no) = _
    rw [e1]; exact e2
theorem cut_ints (ns : List Int) (lo hi : Option Int) : ∃ ms : List Int, cutD (ns.map D.int) lo hi = ms.map D.int ∧ ms.length ≤ ns.length := by
  refine ⟨(ns.drop (HT.sIx (ns.map D.int).length 0 lo)).take (HT.sIx (ns.map D.int).length (ns.map D.int).length hi - HT.sIx (ns.map D.int).length 0 lo), ?_, ?_⟩
  · unfold cutD
    rw [List.map_take, List.map_drop]
  · rw [List.length_take, List.length_drop]; omega
/-! ### a def's run -/
theorem run_rt {cs : List D} {fds : List FD} {k i : Nat} {fd : FD} {ds : List D} {h h' : Hh} {r : R} (e : fds[i]? = some fd) (l : ds.length = fd.ps.length ∧ fd.ps.length ≤ fd.N.length)
    (b : dSs (runF cs fds k) cs fd.body (ds.map some ++ List.replicate (fd.N.length - ds.length) none) h = .ok (.rt r) h') : runF cs fds (k + 1) i ds h = fin h.length fd.fz r h' := by
  show (match fds[i]? with
    | none => Out.no
    | some fd => if ds.length = fd.ps.length ∧ fd.ps.length ≤ fd.N.length then
        match dSs (runF cs fds k) cs fd.body (ds.map some ++ List.replicate (fd.N.length - ds.length) none) h with
        | .ok (.nx _) h' => fin h.length fd.fz (.d .non) h'
        | .ok (.rt r) h' => fin h.length fd.fz r h'
        | .er e h' => .er e h'
        | .no => .no
      else .no) = _
  rw [e]
  show (if _ then _ else _) = _
  rw [if_pos l, b]
def eA : E := (.lc (.bin .Add (.bin .Mult (.c (.int 2)) (.bi .abs (.cons (.v 1) .nil))) (.bi .int (.cons (.cmp .Lt (.v 1) (.c (.int 0))) .nil))) (.nm 1) (.e (.sl false true (.v 0) .none (.c (.int 63)))) .nil [1])
def eC : E := (.lc (.v 1) (.nm 1) (.e (.v 2)) (.cons (.cmp .Gt (.v 1) (.bin .Pow (.c (.int 10)) (.c (.int 12)))) .nil) [1])
def sL : S := (.for (.nm 1) (.e (.v 2)) (.cons (.asg (.nm 3) (.bin .Mod (.bin .Add (.bin .Add (.bin .Mult (.v 3) (.c (.int 69069))) (.v 1)) (.c (.int 11))) (.c (.int 4294967291)))) .nil))
theorem bPot_eq : bPot = (.cons (.asg (.tp (.cons (.nm 2) (.cons (.nm 3) .nil))) (.tup (.cons eA (.cons (.bin .Add (.c (.int 19591)) (.bin .Mult (.c (.int 71)) (.bi .len (.cons (.v 0) .nil)))) .nil)))) (.cons sL (.cons (.ret (.al (.lst (.cons (.al eC) (.cons (.v 3) (.cons (.c (.int 0)) .nil)))))) .nil))) := rfl
section
variable (cl : Cl) (cs : List D)
theorem mk_pot (ns : List Int) (hn : ns.length ≤ 63) :
    ∃ cells m, dSs cl cs bPot [some (.lst (ns.map D.int)), none, none, none] [] = .ok (.rt (.d (.ref 1))) (pot cells m 0 []) ∧ cells.length ≤ 63 := by
  obtain ⟨ms, em, lm⟩ := cut_ints ns none (some 63)
  have s1 : ∀ x : Int, kTurn (dE cl cs (.bin .Add (.bin .Mult (.c (.int 2)) (.bi .abs (.cons (.v 1) .nil))) (.bi .int (.cons (.cmp .Lt (.v 1) (.c (.int 0))) .nil)))) (kNm 1) kYes [some (.lst (ns.map D.int)), none, none, none] (.int x) [] = .ok (some (.int (2 * (if x < 0 then -x else x) + (if decide (x < 0) then 1 else 0)))) [] := by
    intro x
    have t1 (j : Int) (h : Hh) := mul_lo 2 j h (by decide)
    have t2 (x : Int) (h : Hh) : biD .abs [.d (.int x)] h = some (.d (.int (if x < 0 then -x else x))) := rfl
    have t3 (k : Bool) (h : Hh) : biD .int [.d (.bl k)] h = some (.d (.int (if k then 1 else 0))) := rfl
    simp only [kTurn, kYes, dE, dEs, kBi, kBin, kCmp, kNm, kV, kC, kNil, kCons, ok_bind, cmpD, binD, add_i, lt_i, ofO_s, blR_s, toD_d, t1, t2, t3,
        List.getElem?_cons_succ, List.getElem?_cons_zero, List.set_cons_succ, List.set_cons_zero, List.length_cons, List.length_nil, Nat.reduceAdd, Nat.reduceLT, if_true]
  have hle : ms.length < FUEL := by unfold FUEL; omega
  have l1 := lc_map s1 ms FUEL [] hle
  generalize hc : ms.map (fun x : Int => 2 * (if x < 0 then -x else x) + (if decide (x < 0) then 1 else 0)) = cells at l1
  have lc : cells.length ≤ 63 := by rw [← hc, List.length_map]; omega
  have hle2 : (cells.map D.int).length < FUEL := by rw [List.length_map]; unfold FUEL; omega
  have sl : slD (.d (.lst (ns.map D.int))) none (some 63) [] = some (.fl (ms.map D.int)) := by
    show some (R.fl (cutD (ns.map D.int) none (some 63))) = _
    rw [em]
  have len1 : biD .len [.d (.lst (ns.map D.int))] [] = some (.d (.int (ns.map D.int).length)) := rfl
  have cu1 : curOf [] (.fl (ms.map D.int)) = some (.st (ms.map D.int)) := rfl
  have cu2 : curOf [] (.d (.lst (cells.map D.int))) = some (.st (cells.map D.int)) := rfl
  have t1 (j : Int) (h : Hh) := mul_lo 71 j h (by decide)
  have t2 (j : Int) (h : Hh) := mul_l j 69069 h (by decide)
  have t3 (i : Int) (h : Hh) := mod_p i 4294967291 h (by decide)
  have loop : ∀ m0 : Int, ∃ en' h', forLoop (fun d en h => (kNm 1 en (.d d) h).bind fun en h => dSs cl cs (.cons (.asg (.nm 3) (.bin .Mod (.bin .Add (.bin .Add (.bin .Mult (.v 3) (.c (.int 69069))) (.v 1)) (.c (.int 11))) (.c (.int 4294967291)))) .nil) en h) FUEL (.st (cells.map D.int)) [some (.lst (ns.map D.int)), none, some (.lst (cells.map D.int)), some (.int m0)] [] = .ok (.nx en') h' ∧ (h' = [] ∧ ∃ a m, en' = [some (.lst (ns.map D.int)), a, some (.lst (cells.map D.int)), some (.int m)]) := by
    intro m0
    refine for_st (fun en h => h = [] ∧ ∃ a m, en = [some (.lst (ns.map D.int)), a, some (.lst (cells.map D.int)), some (.int m)]) _ _ _ _ ?_ hle2 ⟨rfl, none, m0, rfl⟩
    rintro d hd en h ⟨rfl, a, m, rfl⟩
    obtain ⟨x, _, rfl⟩ := List.mem_map.mp hd
    refine ⟨_, _, ?_, rfl, some (.int x), (m * 69069 + x + 11) % 4294967291, rfl⟩
    simp only [dSs, dS, dE, dT, kSeq, kAsg, kPass, kBin, kNm, kV, kC, ok_bind, binD, add_i, ofO_s, toD_d, t2, t3,
        List.getElem?_cons_succ, List.getElem?_cons_zero, List.set_cons_succ, List.set_cons_zero, List.length_cons, List.length_nil, Nat.reduceAdd, Nat.reduceLT, if_true]
  obtain ⟨en', h', e2, rfl, a, m, rfl⟩ := loop (19591 + 71 * ((ns.map D.int).length : Int))
  have s2 : ∀ x : Int, kTurn (dE cl cs (.v 1)) (kNm 1) (dIf cl cs (.cons (.cmp .Gt (.v 1) (.bin .Pow (.c (.int 10)) (.c (.int 12)))) .nil)) [some (.lst (ns.map D.int)), none, some (.lst (cells.map D.int)), some (.int m)] (.int x) [] = .ok (if decide (1000000000000 < x) then some (.int x) else none) [] := by
    intro x
    have t4 (h : Hh) : binD .Pow (.d (.int 10)) (.d (.int 12)) h = some (.d (.int 1000000000000)) := rfl
    have t5 (h : Hh) : gtD (.d (.int x)) (.d (.int 1000000000000)) h = some (decide ((1000000000000 : Int) < x)) := rfl
    simp only [kTurn, kYes, kIf, dIf, dE, dEs, kBin, kCmp, kNm, kV, kC, ok_bind, cmpD, t4, t5, ofO_s, blR_s, toD_d, truth_bl,
        List.getElem?_cons_succ, List.getElem?_cons_zero, List.set_cons_succ, List.set_cons_zero, List.length_cons, List.length_nil, Nat.reduceAdd, Nat.reduceLT, if_true]
    cases decide ((1000000000000 : Int) < x) <;> rfl
  have l2 := lc_filter s2 cells FUEL [] (by unfold FUEL; omega)
  refine ⟨cells.filter fun x => decide (1000000000000 < x), m, ?_, Nat.le_trans (List.length_filter_le _ _) lc⟩
  have fA : dE cl cs eA [some (.lst (ns.map D.int)), none, none, none] [] = .ok (.fl (cells.map D.int)) [] := by
    have it : dI cl cs (.e (.sl false true (.v 0) .none (.c (.int 63)))) [some (.lst (ns.map D.int)), none, none, none] [] = .ok (.st (ms.map D.int)) [] := by
      have pa : (kPart true (kC (.int 63)) : En → Hh → Out (Option Int)) [some (.lst (ns.map D.int)), none, none, none] [] = .ok (some 63) [] := rfl
      have pb : ∀ d, (kPart false d : En → Hh → Out (Option Int)) [some (.lst (ns.map D.int)), none, none, none] [] = .ok none [] := fun _ => rfl
      simp only [dI, kIe, dE, kSl, kV, kC, ok_bind, pb, List.getElem?_cons_zero]
      rw [pa]
      simp only [ok_bind, sl, ofO_s, cu1]
    show kLc _ (kNm 1) (dI cl cs (.e (.sl false true (.v 0) .none (.c (.int 63))))) kYes [1] _ _ = _
    unfold kLc
    rw [it, ok_bind]
    have w : wipeE [some (.lst (ns.map D.int)), none, none, none] [1] = [some (.lst (ns.map D.int)), none, none, none] := rfl
    rw [w, l1]
    rfl
  have fL : dS cl cs sL [some (.lst (ns.map D.int)), none, some (.lst (cells.map D.int)), some (.int (19591 + 71 * ((ns.map D.int).length : Int)))] [] = .ok (.nx [some (.lst (ns.map D.int)), a, some (.lst (cells.map D.int)), some (.int m)]) [] := by
    show kFor (kNm 1) (dI cl cs (.e (.v 2))) (dSs cl cs _) _ _ = _
    unfold kFor
    have it2 : ∀ x, dI cl cs (.e (.v 2)) [some (.lst (ns.map D.int)), none, some (.lst (cells.map D.int)), x] [] = .ok (.st (cells.map D.int)) [] := by
      intro x
      simp only [dI, kIe, dE, kV, ok_bind, cu2, ofO_s, List.getElem?_cons_zero, List.getElem?_cons_succ]
    rw [it2, ok_bind]
    exact e2
  have fC : ∀ b, dE cl cs eC [some (.lst (ns.map D.int)), b, some (.lst (cells.map D.int)), some (.int m)] [] = .ok (.fl ((cells.filter fun x => decide (1000000000000 < x)).map D.int)) [] := by
    intro b
    have it3 : dI cl cs (.e (.v 2)) [some (.lst (ns.map D.int)), b, some (.lst (cells.map D.int)), some (.int m)] [] = .ok (.st (cells.map D.int)) [] := by
      simp only [dI, kIe, dE, kV, ok_bind, cu2, ofO_s, List.getElem?_cons_zero, List.getElem?_cons_succ]
    show kLc (dE cl cs (.v 1)) (kNm 1) (dI cl cs (.e (.v 2))) (dIf cl cs _) [1] _ _ = _
    unfold kLc
    rw [it3, ok_bind]
    have w : wipeE [some (.lst (ns.map D.int)), b, some (.lst (cells.map D.int)), some (.int m)] [1] = [some (.lst (ns.map D.int)), none, some (.lst (cells.map D.int)), some (.int m)] := rfl
    rw [w, l2]
    rfl
  have e5 : ∀ (x : List D), (alR (.fl x) [] : Out R) = .ok (.d (.ref 0)) [.lst x] := fun _ => rfl
  have e6 : ∀ (x y : List D), (alR (.fl x) [.lst y] : Out R) = .ok (.d (.ref 1)) [.lst y, .lst x] := fun _ _ => rfl
  rw [bPot_eq]
  have v1 : ∀ (ds : List D) (h : Hh), viewS h (.d (.tup ds)) = some ds := fun _ _ => rfl
  have n2 : line 2 = true := by decide
  have n3 : line 3 = true := by decide
  simp only [dSs, dS, dE, dEs, dT, dTs, kSeq, kAsg, kRet, kPass, kTup, kLst, kTp, kTcons, kTnil, kAl, kBi, kBin, kNm, kV, kC, kNil, kCons, ok_bind, binD, add_i, ofO_s, toD_d, toD_fl, v1, n2, n3, fA, fL, fC, len1, t1, e5, e6, List.map_cons, List.map_nil,
        List.getElem?_cons_succ, List.getElem?_cons_zero, List.set_cons_succ, List.set_cons_zero, List.length_cons, List.length_nil, Nat.reduceAdd, Nat.reduceLT, if_true]
  rfl
end
end MP
end

section
set_option Elab.async false
set_option linter.all false
set_option maxRecDepth 100000
set_option maxHeartbeats 4000000
namespace MP
open PySem
theorem atI_nat {ds : List D} {z : Int} (a : 0 ≤ z) (b : z < ds.length) : ∃ d, L2.atI ds z = some d ∧ d ∈ ds := by
  have hz : z.toNat < ds.length := by omega
  refine ⟨ds[z.toNat], ?_, List.getElem_mem hz⟩
  unfold L2.atI L2.ixN
  rw [if_pos a]
  first
    | (rw [if_pos (by omega)]; show ds[z.toNat]? = _; exact List.getElem?_eq_getElem hz)
theorem viewK_none {x : D} {h : Hh} {ds : List D} (e : viewS h (.d x) = some ds) : viewK h (.d x) = none := by
  cases x with
  | ref n =>
    have e : (match h[n]? with
      | some (.lst ds) => some ds
      | _ => none) = some ds := e
    show (match h[n]? with
      | some (.dct _ (.k l) ds) => some (l, ds)
      | _ => none) = none
    split at e
    · rename_i l hl
      rw [hl]
    · cases e
  | dct _ _ => exact nomatch (show (none : Option (List D)) = some ds from e)
  | _ => rfl
def bOne (f : Nat) : Ss := (.cons (.ret (.ix (.v 1) (.call f (.cons (.v 0) (.cons (.bi .len (.cons (.v 1) .nil)) .nil)) .nil [0, 1]))) .nil)
theorem fin_int (h h' : Hh) (z : Int) (l : h'.length = h.length) : fin h.length true (.d (.int z)) h' = .ok (.d (.int z)) h' := by
  show Out.ok _ (h'.take h.length) = _
  rw [← l, List.take_length]
section
variable {cs : List D} {fds : List FD} {k : Nat}
theorem callD_ref (cl : Cl) (f : Nat) (n : Nat) (ds : List D) (h : Hh) : callD cl f (.ref n :: ds) h = cl f (.ref n :: ds) h := rfl
theorem of_call {i : Nat} {fd : FD} (e : fds[i]? = some fd) (eb : fd.body = bOf) (ez : fd.fz = true) (ep : fd.ps.length = 2) (eN : fd.N.length = 4)
    (cells : List Int) (m c : Int) (rest : Hh) (many : Int) (hm : 1 ≤ many) (hM : many < 18446744073709551616) (hc : cells.length ≤ 63) :
    ∃ z cells' c', callD (runF cs fds (k + 1)) i [.ref 1, .int many] (pot cells m c rest) = .ok (.d (.int z)) (pot cells' m c' rest) ∧ 0 ≤ z ∧ z < many ∧ cells'.length ≤ 63 := by
  have go : ∃ z cells' c', dSs (runF cs fds k) cs bOf [some (.ref 1), some (.int many), none, none] (pot cells m c rest) = .ok (.rt (.d (.int z))) (pot cells' m c' rest) ∧ 0 ≤ z ∧ z < many ∧ cells'.length ≤ 63 := by
    by_cases g : many < 2
    · refine ⟨0, cells, c, ?_, by omega, by omega, hc⟩
      simp only [bOf, dSs, dS, dE, kSeq, kIteS, kRet, kCmp, kV, kC, ok_bind, cmpD, truth_bl, lt_i, blR_s, g, decide_true, List.getElem?_cons_succ, List.getElem?_cons_zero]
    · exact draw _ cs cells m c rest many (by omega) hM hc
  obtain ⟨z, cells', c', b, z0, z1, lc⟩ := go
  refine ⟨z, cells', c', ?_, z0, z1, lc⟩
  rw [callD_ref]
  rw [run_rt (r := .d (.int z)) (h' := pot cells' m c' rest) e (by rw [ep, eN]; exact ⟨rfl, by decide⟩) (by rw [eb, eN]; exact b), ez]
  exact fin_int _ _ _ (by simp [pot])
theorem pot_call {i : Nat} {fd : FD} (e : fds[i]? = some fd) (eb : fd.body = bPot) (ez : fd.fz = false) (ep : fd.ps.length = 1) (eN : fd.N.length = 4)
    (ns : List Int) (hn : ns.length ≤ 63) :
    ∃ cells m, callD (runF cs fds (k + 1)) i [.lst (ns.map D.int)] [] = .ok (.d (.ref 1)) (pot cells m 0 []) ∧ cells.length ≤ 63 := by
  obtain ⟨cells, m, b, lc⟩ := mk_pot (runF cs fds k) cs ns hn
  refine ⟨cells, m, ?_, lc⟩
  have r : runF cs fds (k + 1) i [.lst (ns.map D.int)] [] = .ok (.d (.ref 1)) (pot cells m 0 []) := by
    rw [run_rt (r := .d (.ref 1)) (h' := pot cells m 0 []) e (by rw [ep, eN]; exact ⟨rfl, by decide⟩) (by rw [eb, eN]; exact b), ez]
    rfl
  unfold callD
  cases lowAll 0 [.lst (ns.map D.int)] with
  | true => rw [r]; rfl
  | false => exact r
theorem one_call {i f : Nat} {fd fo : FD} (e : fds[i]? = some fd) (eb : fd.body = bOne f) (ez : fd.fz = true) (ep : fd.ps.length = 2) (eN : fd.N.length = 2)
    (e2 : fds[f]? = some fo) (eb2 : fo.body = bOf) (ez2 : fo.fz = true) (ep2 : fo.ps.length = 2) (eN2 : fo.N.length = 4)
    (cells : List Int) (m c : Int) (rest : Hh) (x : D) (ds : List D) (hc : cells.length ≤ 63)
    (hv : ∀ cells m c, viewS (pot cells m c rest) (.d x) = some ds) (h1 : 1 ≤ ds.length) (h2 : ds.length < 18446744073709551616)
    (hf : ∀ d, d ∈ ds → ∀ n h, fin n true (.d d) h = .ok (.d d) (h.take n)) :
    ∃ z cells' c', callD (runF cs fds (k + 2)) i [.ref 1, x] (pot cells m c rest) = .ok (.d z) (pot cells' m c' rest) ∧ z ∈ ds ∧ cells'.length ≤ 63 := by
  obtain ⟨z, cells', c', b, z0, z1, lc⟩ := of_call (cs := cs) (fds := fds) (k := k) e2 eb2 ez2 ep2 eN2 cells m c rest ds.length (by omega) (by omega) hc
  obtain ⟨d, hd, md⟩ := atI_nat z0 z1
  refine ⟨d, cells', c', ?_, md, lc⟩
  have bl : biD .len [.d x] (pot cells m c rest) = some (.d (.int ds.length)) := by
    show bLen [.d x] _ = _
    unfold bLen seq1
    simp only [hv]
  have bx : ixD (.d x) (.d (.int z)) (pot cells' m c' rest) = some d := by
    unfold ixD
    simp only [viewK_none (hv cells' m c'), hv, hd]
  have body : dSs (runF cs fds (k + 1)) cs (bOne f) [some (.ref 1), some x] (pot cells m c rest) = .ok (.rt (.d d)) (pot cells' m c' rest) := by
    have al : allO ([0, 1].map fun i => ([R.d (.ref 1), R.d (.int ds.length)] ++ ([] : List R))[i]?) = some [R.d (.ref 1), R.d (.int ds.length)] := rfl
    simp only [bOne, dSs, dS, dE, dEs, kSeq, kRet, kIx, kCall, kBi, kV, kNil, kCons, ok_bind, bl, ofO_s, List.getElem?_cons_succ, List.getElem?_cons_zero]
    rw [al]
    simp only [List.map_cons, List.map_nil, toD_d, b, ok_bind, bx, dOut_s]
  rw [callD_ref]
  rw [run_rt (r := .d d) (h' := pot cells' m c' rest) e (by rw [ep, eN]; exact ⟨rfl, by decide⟩) (by rw [eb, eN]; exact body), ez, hf d md]
  show Out.ok _ ((pot cells' m c' rest).take (pot cells m c rest).length) = _
  rw [show (pot cells m c rest).length = (pot cells' m c' rest).length from by simp [pot], List.take_length]
end
end MP
end

section
set_option Elab.async false
set_option linter.all false
set_option maxRecDepth 100000
set_option maxHeartbeats 4000000
namespace MP
open PySem
/-! ## the same run, over bodies that are turned to functions beforehand -/
abbrev QD := FD × (Cl → DenS)
def runQ (qs : List QD) : Nat → Cl
  | 0, _, _, _ => .no
  | k + 1, f, ds, h => match qs[f]? with
    | none => .no
    | some (fd, q) => if ds.length = fd.ps.length ∧ fd.ps.length ≤ fd.N.length then
        match q (runQ qs k) (ds.map some ++ List.replicate (fd.N.length - ds.length) none) h with
        | .ok (.nx _) h' => fin h.length fd.fz (.d .non) h'
        | .ok (.rt r) h' => fin h.length fd.fz r h'
        | .er e h' => .er e h'
        | .no => .no
      else .no
def QOk (cs : List D) : List QD → Prop
  | [] => True
  | p :: r => (∀ cl, dSs cl cs p.1.body = p.2 cl) ∧ QOk cs r
theorem QOk.at {cs : List D} : ∀ {qs : List QD} {i : Nat} {p : QD}, QOk cs qs → qs[i]? = some p → ∀ cl, dSs cl cs p.1.body = p.2 cl
  | [], i, p, _, e => by simp at e
  | q :: r, 0, p, h, e => by
    simp only [List.getElem?_cons_zero, Option.some.injEq] at e
    exact e ▸ h.1
  | q :: r, i + 1, p, h, e => by
    simp only [List.getElem?_cons_succ] at e
    exact QOk.at h.2 e
theorem runQ_eq {cs : List D} {qs : List QD} (ok : QOk cs qs) : ∀ k, runF cs (qs.map (·.1)) k = runQ qs k
  | 0 => rfl
  | k + 1 => by
    funext f ds h
    have e : (qs.map (·.1))[f]? = (qs[f]?).map (·.1) := List.getElem?_map
    show (match (qs.map (·.1))[f]? with
      | none => Out.no
      | some fd => if ds.length = fd.ps.length ∧ fd.ps.length ≤ fd.N.length then
          match dSs (runF cs (qs.map (·.1)) k) cs fd.body (ds.map some ++ List.replicate (fd.N.length - ds.length) none) h with
          | .ok (.nx _) h' => fin h.length fd.fz (.d .non) h'
          | .ok (.rt r) h' => fin h.length fd.fz r h'
          | .er e h' => .er e h'
          | .no => .no
        else .no) = (match qs[f]? with
      | none => Out.no
      | some (fd, q) => if ds.length = fd.ps.length ∧ fd.ps.length ≤ fd.N.length then
          match q (runQ qs k) (ds.map some ++ List.replicate (fd.N.length - ds.length) none) h with
          | .ok (.nx _) h' => fin h.length fd.fz (.d .non) h'
          | .ok (.rt r) h' => fin h.length fd.fz r h'
          | .er e h' => .er e h'
          | .no => .no
        else .no)
    rw [e]
    cases hq : qs[f]? with
    | none => rfl
    | some p =>
      have b := ok.at hq (runQ qs k)
      obtain ⟨fd, q⟩ := p
      show (if _ then (match dSs (runF cs (qs.map (fun p : QD => p.1)) k) cs fd.body _ h with
          | .ok (.nx _) h' => fin h.length fd.fz (.d .non) h'
          | .ok (.rt r) h' => fin h.length fd.fz r h'
          | .er e h' => .er e h'
          | .no => .no) else _) = _
      rw [runQ_eq ok k, b]
end MP
end

section
set_option Elab.async false
set_option linter.all false
set_option maxRecDepth 100000
set_option maxHeartbeats 4000000
namespace MP
open PySem
/-! ## a loop by its states, turn by turn -/
abbrev Turn := D × En × Hh
def Chain (step : D → En → Hh → Out Fl) : En → Hh → List Turn → Prop
  | _, _, [] => True
  | en, h, (d, en', h') :: r => step d en h = .ok (.nx en') h' ∧ Chain step en' h' r
def lastT : En → Hh → List Turn → En × Hh
  | en, h, [] => (en, h)
  | _, _, (_, en', h') :: r => lastT en' h' r
theorem for_chain {step : D → En → Hh → Out Fl} : ∀ (l : List Turn) (n : Nat) (en : En) (h : Hh), Chain step en h l → l.length < n → forLoop step n (.st (l.map (·.1))) en h = .ok (.nx (lastT en h l).1) (lastT en h l).2
  | [], 0, en, h, _, l => absurd l (by simp)
  | [], n + 1, en, h, _, _ => rfl
  | t :: r, 0, en, h, _, l => absurd l (by simp)
  | (d, en', h') :: r, n + 1, en, h, c, l => by
    have e : step d en h = .ok (.nx en') h' := c.1
    show forLoop step (n + 1) (.st (d :: r.map (·.1))) en h = _
    unfold forLoop
    simp only [next, e]
    exact for_chain r n en' h' c.2 (by simp only [List.length_cons] at l; omega)
def dropS : Ss → Nat → Ss
  | r, 0 => r
  | .nil, _ + 1 => .nil
  | .cons _ r, n + 1 => dropS r n
def takeS : Ss → Nat → Ss
  | _, 0 => .nil
  | .nil, _ + 1 => .nil
  | .cons s r, n + 1 => .cons s (takeS r n)
theorem take_drop (cl : Cl) (cs : List D) : ∀ (n : Nat) (b : Ss) (en en' : En) (h h' : Hh), dSs cl cs (takeS b n) en h = .ok (.nx en') h' → dSs cl cs b en h = dSs cl cs (dropS b n) en' h'
  | 0, b, en, en', h, h', e => by
    simp only [takeS, dSs, kPass] at e
    cases e
    simp only [dropS]
  | n + 1, .nil, en, en', h, h', e => by
    simp only [takeS, dSs, kPass] at e
    cases e
    simp only [dropS]
  | n + 1, .cons s r, en, en', h, h', e => by
    simp only [takeS, dSs] at e
    simp only [dropS, dSs]
    unfold kSeq at e ⊢
    split at e
    · rename_i en1 h1 e1
      exact take_drop cl cs n r en1 en' h1 h' e
    · cases e
    · cases e
    · cases e
theorem callD_cl {cl : Cl} {f : Nat} {ds : List D} {r : R} (h : Hh) (l : lowAll 0 ds = true) (e : cl f ds [] = .ok r []) : callD cl f ds h = .ok r h := by
  unfold callD
  rw [l, e]
theorem al1 {α : Type} (a : α) : allO [some a] = some [a] := rfl
theorem al2 {α : Type} (a b : α) : allO [some a, some b] = some [a, b] := rfl
end MP
end

section
set_option Elab.async false
set_option linter.all false
set_option maxRecDepth 100000
set_option maxHeartbeats 4000000
namespace MP
open PySem
inductive All2 {α β : Type} (P : α → β → Prop) : List α → List β → Prop where
  | nil : All2 P [] []
  | cons {a : α} {b : β} {l : List α} {m : List β} (h : P a b) (t : All2 P l m) : All2 P (a :: l) (b :: m)
theorem All2.app {α β : Type} {P : α → β → Prop} {l l' : List α} {m m' : List β} (h : All2 P l m) (k : All2 P l' m') : All2 P (l ++ l') (m ++ m') := by
  induction h with
  | nil => exact k
  | cons h _ ih => exact .cons h ih
theorem All2.map {ι α β : Type} {P : α → β → Prop} {f : ι → α} {g : ι → β} : ∀ {l : List ι}, (∀ i ∈ l, P (f i) (g i)) → All2 P (l.map f) (l.map g)
  | [], _ => .nil
  | i :: l, h => .cons (h i List.mem_cons_self) (All2.map fun j hj => h j (List.mem_cons_of_mem _ hj))
theorem All2.tab {α β : Type} {P : α → β → Prop} {f : Nat → α} {g : Nat → β} {n : Nat} (h : ∀ i, i < n → P (f i) (g i)) : All2 P ((List.range n).map f) ((List.range n).map g) := All2.map fun i hi => h i (List.mem_range.mp hi)
theorem All2.len {α β : Type} {P : α → β → Prop} {l : List α} {m : List β} (h : All2 P l m) : m.length = l.length := by
  induction h with
  | nil => rfl
  | cons _ _ ih => rw [List.length_cons, List.length_cons, ih]
/-! ## walks that do not look at the heap -/
def Ys : Cur → List D → Prop
  | c, [] => ∀ h, next c h = .stop
  | c, d :: l => ∃ c', (∀ h, next c h = .it d c') ∧ Ys c' l
theorem Ys_st : ∀ ds : List D, Ys (.st ds) ds
  | [] => fun _ => rfl
  | d :: ds => ⟨.st ds, fun _ => rfl, Ys_st ds⟩
theorem Ys_en : ∀ {l : List D} {c : Cur} (k : Nat), Ys c l → Ys (.en k c) (l.mapIdx fun i d => .tup [.int ((k + i : Nat)), d])
  | [], c, k, y => fun h => by show (match next c h with | .it d c' => _ | .stop => Nx.stop | .stuck => Nx.stuck) = _; rw [y h]
  | d :: l, c, k, ⟨c', e, y⟩ => by
    rw [List.mapIdx_cons]
    refine ⟨.en (k + 1) c', fun h => ?_, ?_⟩
    · show (match next c h with | .it d c' => Nx.it (.tup [.int k, d]) (.en (k + 1) c') | .stop => Nx.stop | .stuck => Nx.stuck) = _
      rw [e h]; rfl
    · have := Ys_en (k + 1) y
      have e2 : (fun i d => D.tup [.int ((k + (i + 1) : Nat)), d]) = fun i d => D.tup [.int ((k + 1 + i : Nat)), d] := by
        funext i d
        rw [show k + (i + 1) = k + 1 + i by omega]
      show Ys _ (List.mapIdx (fun i d => D.tup [.int ((k + (i + 1) : Nat)), d]) l)
      rw [e2]
      exact this
theorem Ys_zp : ∀ {l m : List D} {c d : Cur}, Ys c l → Ys d m → l.length = m.length → Ys (.zp c d) (zipD l m)
  | [], [], c, d, y, z, _ => fun h => by
    show (match next c h, next d h with
      | .it x a', .it e b' => Nx.it (.tup [x, e]) (.zp a' b')
      | .stop, .it _ _ => .stop
      | .stop, .stop => .stop
      | .it _ _, .stop => .stop
      | _, _ => .stuck) = _
    rw [y h, z h]
  | x :: l, w :: m, c, d, ⟨c', e, y⟩, ⟨d', f, z⟩, hl => ⟨.zp c' d', fun h => by
      show (match next c h, next d h with
        | .it x a', .it e b' => Nx.it (.tup [x, e]) (.zp a' b')
        | .stop, .it _ _ => .stop
        | .stop, .stop => .stop
        | .it _ _, .stop => .stop
        | _, _ => .stuck) = _
      rw [e h, f h], Ys_zp y z (by simpa using hl)⟩
  | [], _ :: _, _, _, _, _, hl => by simp at hl
  | _ :: _, [], _, _, _, _, hl => by simp at hl
/-! ## comprehensions -/
theorem lc_ys {step : D → Hh → Out (Option D)} {f : D → D} {h : Hh} : ∀ (ds : List D) (c : Cur) (n : Nat) (acc : List D), Ys c ds → (∀ d ∈ ds, step d h = .ok (some (f d)) h) → ds.length < n → lcLoop step n c acc h = .ok (acc.reverse ++ ds.map f) h
  | [], c, 0, acc, _, _, l => absurd l (by simp)
  | [], c, n + 1, acc, y, _, _ => by unfold lcLoop; rw [y h]; simp
  | d :: ds, c, 0, acc, _, _, l => absurd l (by simp)
  | d :: ds, c, n + 1, acc, ⟨c', e, y⟩, hs, l => by
    unfold lcLoop
    rw [e h]
    simp only [hs d List.mem_cons_self]
    rw [lc_ys ds c' n (f d :: acc) y (fun x hx => hs x (List.mem_cons_of_mem _ hx)) (by simp only [List.length_cons] at l; omega)]
    simp
theorem lc_all2 {step : D → Hh → Out (Option D)} {h : Hh} {ds xs : List D} (a : All2 (fun d x => step d h = .ok (some x) h) ds xs) : ∀ (c : Cur) (n : Nat) (acc : List D), Ys c ds → ds.length < n → lcLoop step n c acc h = .ok (acc.reverse ++ xs) h := by
  induction a with
  | nil =>
    intro c n acc y l
    cases n with
    | zero => exact absurd l (by simp)
    | succ n => unfold lcLoop; rw [y h]; simp
  | @cons d x ds xs e _ ih =>
    intro c n acc ⟨c', e1, y⟩ l
    cases n with
    | zero => exact absurd l (by simp)
    | succ n =>
      unfold lcLoop
      rw [e1 h]
      simp only [e]
      rw [ih c' n (x :: acc) y (by simp only [List.length_cons] at l; omega)]
      simp
/-- with tests -/
theorem lc_ysF {step : D → Hh → Out (Option D)} {f : D → Option D} {h : Hh} : ∀ (ds : List D) (c : Cur) (n : Nat) (acc : List D), Ys c ds → (∀ d ∈ ds, step d h = .ok (f d) h) → ds.length < n → lcLoop step n c acc h = .ok (acc.reverse ++ ds.filterMap f) h
  | [], c, 0, acc, _, _, l => absurd l (by simp)
  | [], c, n + 1, acc, y, _, _ => by unfold lcLoop; rw [y h]; simp
  | d :: ds, c, 0, acc, _, _, l => absurd l (by simp)
  | d :: ds, c, n + 1, acc, ⟨c', e, y⟩, hs, l => by
    unfold lcLoop
    rw [e h]
    simp only [hs d List.mem_cons_self]
    have ih := fun a => lc_ysF ds c' n a y (fun x hx => hs x (List.mem_cons_of_mem _ hx)) (by simp only [List.length_cons] at l; omega)
    cases hf : f d with
    | none => simp only [ih, List.filterMap_cons, hf]
    | some z => simp only [ih, List.filterMap_cons, hf, List.reverse_cons, List.append_assoc, List.singleton_append]
/-- with draws: what is made is known by P alone -/
theorem lc_ysI {step : D → Hh → Out (Option D)} (I : Hh → Prop) (P : D → D → Prop) : ∀ (ds : List D) (c : Cur) (n : Nat) (acc : List D) (h : Hh), Ys c ds → (∀ d ∈ ds, ∀ h, I h → ∃ y h', step d h = .ok (some y) h' ∧ P d y ∧ I h') → ds.length < n → I h →
    ∃ ys h', lcLoop step n c acc h = .ok (acc.reverse ++ ys) h' ∧ I h' ∧ All2 P ds ys
  | [], c, 0, acc, h, _, _, l, _ => absurd l (by simp)
  | [], c, n + 1, acc, h, y, _, _, i => ⟨[], h, by unfold lcLoop; rw [y h]; simp, i, .nil⟩
  | d :: ds, c, 0, acc, h, _, _, l, _ => absurd l (by simp)
  | d :: ds, c, n + 1, acc, h, ⟨c', e, y⟩, hs, l, i => by
    obtain ⟨x, h1, e1, p1, i1⟩ := hs d List.mem_cons_self h i
    obtain ⟨ys, h2, e2, i2, p2⟩ := lc_ysI I P ds c' n (x :: acc) h1 y (fun x hx => hs x (List.mem_cons_of_mem _ hx)) (by simp only [List.length_cons] at l; omega) i1
    refine ⟨x :: ys, h2, ?_, i2, .cons p1 p2⟩
    unfold lcLoop
    rw [e h]
    simp only [e1, e2]
    simp
section
variable {elt : Den} {tg : DenT} {it : DenI} {ifs : En → Hh → Out Bool} {own : List Nat} {en : En} {h h1 : Hh} {c : Cur} {n : Nat}
theorem kLc_ys {ds : List D} {f : D → D} (hit : it en h = .ok c h1) (y : Ys c ds) (hs : ∀ d ∈ ds, kTurn elt tg ifs (wipeE en own) d h1 = .ok (some (f d)) h1) (l : ds.length < FUEL) : kLc elt tg it ifs own en h = .ok (.fl (ds.map f)) h1 := by
  unfold kLc
  rw [hit]
  rw [ok_bind]
  rw [lc_ys ds c FUEL [] y hs l]
  rfl
theorem kLc_all2 {ds xs : List D} (hit : it en h = .ok c h1) (y : Ys c ds) (a : All2 (fun d x => kTurn elt tg ifs (wipeE en own) d h1 = .ok (some x) h1) ds xs) (l : ds.length < FUEL) : kLc elt tg it ifs own en h = .ok (.fl xs) h1 := by
  unfold kLc
  rw [hit]
  rw [ok_bind]
  rw [lc_all2 a c FUEL [] y l]
  rfl
theorem kLc_ysF {ds : List D} {f : D → Option D} (hit : it en h = .ok c h1) (y : Ys c ds) (hs : ∀ d ∈ ds, kTurn elt tg ifs (wipeE en own) d h1 = .ok (f d) h1) (l : ds.length < FUEL) : kLc elt tg it ifs own en h = .ok (.fl (ds.filterMap f)) h1 := by
  unfold kLc
  rw [hit]
  rw [ok_bind]
  rw [lc_ysF ds c FUEL [] y hs l]
  rfl
theorem kLc_ysI (I : Hh → Prop) (P : D → D → Prop) {ds : List D} (hit : it en h = .ok c h1) (y : Ys c ds) (hs : ∀ d ∈ ds, ∀ h, I h → ∃ y h', kTurn elt tg ifs (wipeE en own) d h = .ok (some y) h' ∧ P d y ∧ I h') (l : ds.length < FUEL) (i : I h1) : ∃ ys h', kLc elt tg it ifs own en h = .ok (.fl ys) h' ∧ I h' ∧ All2 P ds ys := by
  obtain ⟨ys, h', e, i', p⟩ := lc_ysI (step := kTurn elt tg ifs (wipeE en own)) I P ds c FUEL [] h1 y hs l i
  refine ⟨ys, h', ?_, i', p⟩
  unfold kLc
  rw [hit]
  rw [ok_bind]
  rw [e]
  rfl
/-- over a table -/
theorem kLc_tab {g : Nat → D} (f : Nat → D) (hit : it en h = .ok (.st ((List.range n).map g)) h1) (hn : n < FUEL) (hs : ∀ i, i < n → kTurn elt tg ifs (wipeE en own) (g i) h1 = .ok (some (f i)) h1) : kLc elt tg it ifs own en h = .ok (.fl ((List.range n).map f)) h1 := by
  have key : ∀ (l : List Nat) (m : Nat) (acc : List D), (∀ i ∈ l, i < n) → l.length < m → lcLoop (kTurn elt tg ifs (wipeE en own)) m (.st (l.map g)) acc h1 = .ok (acc.reverse ++ l.map f) h1 := fun l => by
    induction l with
    | nil =>
      intro m acc _ lm
      cases m with
      | zero => exact absurd lm (by simp)
      | succ m => show Out.ok acc.reverse h1 = _; simp
    | cons i l ih =>
      intro m acc hi lm
      cases m with
      | zero => exact absurd lm (by simp)
      | succ m =>
        show (match kTurn elt tg ifs (wipeE en own) (g i) h1 with
          | .ok (some x) h' => lcLoop (kTurn elt tg ifs (wipeE en own)) m (.st (l.map g)) (x :: acc) h'
          | .ok none h' => lcLoop (kTurn elt tg ifs (wipeE en own)) m (.st (l.map g)) acc h'
          | .er e h' => .er e h'
          | .no => .no) = _
        rw [hs i (hi i List.mem_cons_self)]
        show lcLoop _ m _ (f i :: acc) h1 = _
        rw [ih m (f i :: acc) (fun j hj => hi j (List.mem_cons_of_mem _ hj)) (by simp only [List.length_cons] at lm; omega)]
        simp
  unfold kLc
  rw [hit]
  rw [ok_bind]
  rw [key (List.range n) FUEL [] (fun i hi => List.mem_range.mp hi) (by simpa using hn)]
  rfl
end
/-! ## loops -/
theorem for_ys {step : D → En → Hh → Out Fl} (I : Nat → En → Hh → Prop) : ∀ (ds : List D) (c : Cur) (k n : Nat) (en : En) (h : Hh), Ys c ds → (∀ j d, ds[j]? = some d → ∀ en h, I (k + j) en h → ∃ en' h', step d en h = .ok (.nx en') h' ∧ I (k + j + 1) en' h') → ds.length < n → I k en h →
    ∃ en' h', forLoop step n c en h = .ok (.nx en') h' ∧ I (k + ds.length) en' h'
  | [], c, k, 0, en, h, _, _, l, _ => absurd l (by simp)
  | [], c, k, n + 1, en, h, y, _, _, i => ⟨en, h, by unfold forLoop; rw [y h], i⟩
  | d :: ds, c, k, 0, en, h, _, _, l, _ => absurd l (by simp)
  | d :: ds, c, k, n + 1, en, h, ⟨c', e, y⟩, hs, l, i => by
    obtain ⟨en1, h1, e1, i1⟩ := hs 0 d rfl en h i
    obtain ⟨en2, h2, e2, i2⟩ := for_ys I ds c' (k + 1) n en1 h1 y (fun j x hj en h i => by
      have := hs (j + 1) x (by simpa using hj) en h (by rw [show k + (j + 1) = k + 1 + j by omega]; exact i)
      rw [show k + 1 + j + 1 = k + (j + 1) + 1 by omega]
      exact this) (by simp only [List.length_cons] at l; omega) i1
    refine ⟨en2, h2, ?_, by rw [List.length_cons, show k + (ds.length + 1) = k + 1 + ds.length by omega]; exact i2⟩
    unfold forLoop
    rw [e h]
    simp only [e1, e2]
/-! ## squares as functions -/
abbrev nums (n : Nat) : List D := (List.range n).map fun i => D.int (i : Nat)
def rowF (n : Nat) (r : Nat → Int) : D := .tup ((List.range n).map fun j => .int (r j))
def sqF (n : Nat) (c : Nat → Nat → Int) : D := .tup ((List.range n).map fun i => rowF n (c i))
theorem rng0 (n : Nat) : rng 0 (n : Int) = nums n := by
  unfold rng nums
  rw [show ((n : Int) - 0).toNat = n by omega]
  exact List.map_congr_left fun i _ => by rw [Int.zero_add]
theorem atI_tab {n i : Nat} {f : Nat → D} (h : i < n) : L2.atI ((List.range n).map f) (i : Int) = some (f i) := by
  unfold L2.atI L2.ixN
  rw [if_pos (by omega), if_pos (by simp; omega)]
  show ((List.range n).map f)[((i : Int)).toNat]? = _
  rw [show ((i : Int)).toNat = i by omega, List.getElem?_map, List.getElem?_range h]
  rfl
theorem ix_tup {ds : List D} {i : Int} (h : Hh) : ixD (.d (.tup ds)) (.d (.int i)) h = L2.atI ds i := rfl
theorem ix_fl {ds : List D} {i : Int} (h : Hh) : ixD (.fl ds) (.d (.int i)) h = L2.atI ds i := rfl
theorem ix_lst {ds : List D} {i : Int} (h : Hh) : ixD (.d (.lst ds)) (.d (.int i)) h = L2.atI ds i := rfl
theorem ix_xt {ds : List D} {i : Int} (h : Hh) : ixD (.d (.xt ds)) (.d (.int i)) h = L2.atI ds i := rfl
theorem ix_sq {n i : Nat} {c : Nat → Nat → Int} (hi : i < n) (h : Hh) : ixD (.d (sqF n c)) (.d (.int i)) h = some (rowF n (c i)) := atI_tab hi
theorem ix_row {n i : Nat} {r : Nat → Int} (hi : i < n) (h : Hh) : ixD (.d (rowF n r)) (.d (.int i)) h = some (.int (r i)) := atI_tab hi
theorem intsD_tab (n : Nat) (r : Nat → Int) : intsD ((List.range n).map fun j => .int (r j)) = some ((List.range n).map r) := by
  have : ∀ l : List Nat, intsD (l.map fun j => .int (r j)) = some (l.map r) := fun l => by
    induction l with
    | nil => rfl
    | cons x l ih => show (match intsD (l.map fun j => .int (r j)) with | some m => some (r x :: m) | none => none) = _; rw [ih]; rfl
  exact this _
def sm (n : Nat) (r : Nat → Int) : Int := ((List.range n).map r).sum
theorem sum_fl (n : Nat) (r : Nat → Int) (h : Hh) : biD .sum [.fl ((List.range n).map fun j => .int (r j))] h = some (.d (.int (sm n r))) := by
  show bSum [_] h = _
  unfold bSum
  show (match (match viewS h (.fl _) with | some ds => intsD ds | none => none) with | some ns => some (R.d (D.int ns.sum)) | none => none) = _
  show (match intsD _ with | some ns => some (R.d (D.int ns.sum)) | none => none) = _
  rw [intsD_tab]; rfl
theorem sum_row (n : Nat) (r : Nat → Int) (h : Hh) : biD .sum [.d (rowF n r)] h = some (.d (.int (sm n r))) := by
  show (match intsD _ with | some ns => some (R.d (D.int ns.sum)) | none => none) = _
  rw [intsD_tab]; rfl
theorem len_tup (ds : List D) (h : Hh) : biD .len [.d (.tup ds)] h = some (.d (.int ds.length)) := rfl
theorem len_sq (n : Nat) (c : Nat → Nat → Int) (h : Hh) : biD .len [.d (sqF n c)] h = some (.d (.int n)) := by
  show some (R.d (D.int (((List.range n).map _).length : Nat))) = _
  rw [List.length_map, List.length_range]
theorem tup_fl (ds : List D) (h : Hh) : biD .tup [.fl ds] h = some (.d (.tup ds)) := rfl
theorem rg1_n (n : Nat) (h : Hh) (hn : n < 1000000) : rg1R (.d (.int n)) h = .ok (.st (nums n)) h := by
  unfold rg1R
  simp only
  rw [if_pos (by omega), rng0]
theorem lrng_n (n : Nat) (h : Hh) (hn : n < 1000000) : biD .lrng1 [.d (.int n)] h = some (.fl (nums n)) := by
  rw [show biD .lrng1 = bLrng1 from rfl]
  unfold bLrng1
  simp only
  rw [if_pos ⟨by omega, by omega, by rw [sizeLine_eq]; omega⟩, rng0]
theorem cur_tup (ds : List D) (h : Hh) : curOf h (.d (.tup ds)) = some (.st ds) := rfl
theorem cur_fl (ds : List D) (h : Hh) : curOf h (.fl ds) = some (.st ds) := rfl
theorem cur_lst (ds : List D) (h : Hh) : curOf h (.d (.lst ds)) = some (.st ds) := rfl
theorem cur_xt (ds : List D) (h : Hh) : curOf h (.d (.xt ds)) = some (.st ds) := rfl
theorem cur_sq (n : Nat) (c : Nat → Nat → Int) (h : Hh) : curOf h (.d (sqF n c)) = some (.st ((List.range n).map fun i => rowF n (c i))) := rfl
theorem cur_row (n : Nat) (r : Nat → Int) (h : Hh) : curOf h (.d (rowF n r)) = some (.st ((List.range n).map fun i => .int (r i))) := rfl
theorem line_lt {n : Nat} (h : n ≤ 10000000) : line n = true := by
  show decide (n ≤ sizeLine) = true
  exact decide_eq_true (by rw [sizeLine_eq]; omega)
/-! ## the rules of a walk, as terms -/
section
variable {a b c e o es1 : Den} {es ks : DenL} {en en1 : En} {h h1 h2 h3 : Hh} {r x y z : R} {rs xs ys : List R} {d : D} {cl : Cl} {cs : List D} {i : Nat}
theorem v_ok (q : en[i]? = some (some d)) : kV i en h = .ok (.d d) h := by unfold kV; rw [q]
theorem c_ok : kC d en h = .ok (.d d) h := rfl
theorem g_ok (q : cs[i]? = some d) : kG cs i en h = .ok (.d d) h := by unfold kG; rw [q]
theorem nil_ok : kNil en h = .ok [] h := rfl
theorem cons_ok (p : e en h = .ok r h1) (q : es en h1 = .ok rs h2) : kCons e es en h = .ok (r :: rs) h2 := by unfold kCons; rw [p, ok_bind, q, ok_bind]
theorem lst_ok (p : es en h = .ok rs h1) (l : line rs.length = true) : kLst es en h = .ok (.fl (rs.map R.toD)) h1 := by unfold kLst; rw [p]; show (if line rs.length = true then _ else _) = _; rw [if_pos l]
theorem tup_ok (p : es en h = .ok rs h1) (l : line rs.length = true) : kTup es en h = .ok (.d (.tup (rs.map R.toD))) h1 := by unfold kTup; rw [p]; show (if line rs.length = true then _ else _) = _; rw [if_pos l]
theorem bin_ok {op : Operator} (p : a en h = .ok x h1) (q : b en h1 = .ok y h2) (s : binD op x y h2 = some z) : kBin op a b en h = .ok z h2 := by unfold kBin; rw [p, ok_bind, q, ok_bind, s]; rfl
theorem cmp_ok {op : CmpOp} {k : Bool} (p : a en h = .ok x h1) (q : b en h1 = .ok y h2) (s : cmpD op x y h2 = some k) : kCmp op a b en h = .ok (.d (.bl k)) h2 := by unfold kCmp; rw [p, ok_bind, q, ok_bind, s]; rfl
theorem bi_ok {k : BI} (p : es en h = .ok xs h1) (s : biD k xs h1 = some z) : kBi k es en h = .ok z h1 := by unfold kBi; rw [p, ok_bind, s]; rfl
theorem ix_ok (p : a en h = .ok x h1) (q : b en h1 = .ok y h2) (s : ixD x y h2 = some d) : kIx a b en h = .ok (.d d) h2 := by unfold kIx; rw [p, ok_bind, q, ok_bind, s]; rfl
theorem neg_ok {k : Int} (p : a en h = .ok (.d (.int k)) h1) : kNeg a en h = .ok (.d (.int (-k))) h1 := by unfold kNeg; rw [p, ok_bind]; rfl
theorem not_ok {k : Bool} (p : a en h = .ok x h1) (t : truth h1 x = some k) : kNot a en h = .ok (.d (.bl (!k))) h1 := by unfold kNot; rw [p, ok_bind]; show (match truth h1 x with | some b => _ | none => _) = _; rw [t]
theorem and_t (p : a en h = .ok x h1) (t : truth h1 x = some true) (q : b en h1 = .ok y h2) : kAnd a b en h = .ok y h2 := by unfold kAnd; rw [p, ok_bind]; show (match truth h1 x with | some true => _ | some false => _ | none => _) = _; rw [t]; exact q
theorem and_f (p : a en h = .ok x h1) (t : truth h1 x = some false) : kAnd a b en h = .ok x h1 := by unfold kAnd; rw [p, ok_bind]; show (match truth h1 x with | some true => _ | some false => _ | none => _) = _; rw [t]
theorem or_f (p : a en h = .ok x h1) (t : truth h1 x = some false) (q : b en h1 = .ok y h2) : kOr a b en h = .ok y h2 := by unfold kOr; rw [p, ok_bind]; show (match truth h1 x with | some false => _ | some true => _ | none => _) = _; rw [t]; exact q
theorem or_t (p : a en h = .ok x h1) (t : truth h1 x = some true) : kOr a b en h = .ok x h1 := by unfold kOr; rw [p, ok_bind]; show (match truth h1 x with | some false => _ | some true => _ | none => _) = _; rw [t]
theorem if_t (p : c en h = .ok x h1) (t : truth h1 x = some true) (q : a en h1 = .ok y h2) : kIte c a b en h = .ok y h2 := by unfold kIte; rw [p, ok_bind]; show (match truth h1 x with | some true => _ | some false => _ | none => _) = _; rw [t]; exact q
theorem if_f (p : c en h = .ok x h1) (t : truth h1 x = some false) (q : b en h1 = .ok y h2) : kIte c a b en h = .ok y h2 := by unfold kIte; rw [p, ok_bind]; show (match truth h1 x with | some true => _ | some false => _ | none => _) = _; rw [t]; exact q
theorem call_ok {f : Nat} {pm : List Nat} {zs : List R} (p : es en h = .ok xs h1) (q : ks en h1 = .ok ys h2) (s : allO (pm.map fun i => (xs ++ ys)[i]?) = some zs) (k : callD cl f (zs.map R.toD) h2 = .ok z h3) : kCall cl f es ks pm en h = .ok z h3 := by
  unfold kCall; rw [p, ok_bind, q, ok_bind, s]; exact k
theorem al_ok {ds : List D} (p : a en h = .ok (.fl ds) h1) : kAl a en h = .ok (.d (.ref h1.length)) (h1 ++ [.lst ds]) := by unfold kAl; rw [p, ok_bind]; rfl
theorem rev_ok (p : a en h = .ok x h1) (s : revD x h1 = some z) : kRev a en h = .ok z h1 := by unfold kRev; rw [p, ok_bind, s]; rfl
theorem meth_ok {m : ME} {l : List D} (p : o en h = .ok x h1) (v : viewL h1 x = some l) (q : es en h1 = .ok xs h2) (s : methD m x xs h2 = .ok z h3) : kMeth m o es en h = .ok z h3 := by
  unfold kMeth; rw [p, ok_bind, v]; show ((es en h1).bind _) = _; rw [q, ok_bind, s]
theorem sl_ok {b1 b2 : Bool} {lo hi : Den} {l u : Option Int} (p : a en h = .ok x h1) (q : kPart b1 lo en h1 = .ok l h1) (t : kPart b2 hi en h1 = .ok u h1) (s : slD x l u h1 = some z) : kSl b1 b2 a lo hi en h = .ok z h1 := by
  unfold kSl; rw [p, ok_bind, q, ok_bind, t, ok_bind, s]; rfl
theorem part_f : kPart false a en h = .ok none h := rfl
theorem part_t {k : Int} (p : a en h = .ok (.d (.int k)) h) : kPart true a en h = .ok (some k) h := by unfold kPart; rw [p]; rfl
theorem lt_b {m n : Nat} (h : Nat.blt m n = true) : m < n := Nat.blt_eq.mp h
/-! statements -/
theorem ret_ok (p : e en h = .ok r h1) : kRet e en h = .ok (.rt r) h1 := by unfold kRet; rw [p]; rfl
theorem exp_ok (p : e en h = .ok r h1) : kExp e en h = .ok (.nx en) h1 := by unfold kExp; rw [p]; rfl
theorem nm_ok (hi : i < en.length) : kNm i en r h = .ok (en.set i (some r.toD)) h := by unfold kNm; rw [if_pos hi]
theorem tp_ok {ts : DenTs} {ds : List D} (v : viewS h r = some ds) (p : ts en ds h = .ok en1 h1) : kTp ts en r h = .ok en1 h1 := by unfold kTp; rw [v]; exact p
theorem tnil_ok : kTnil en [] h = .ok en h := rfl
theorem tcons_ok {t : DenT} {ts : DenTs} {ds : List D} {en2 : En} (p : t en (.d d) h = .ok en1 h1) (q : ts en1 ds h1 = .ok en2 h2) : kTcons t ts en (d :: ds) h = .ok en2 h2 := by
  show ((t en (.d d) h).bind fun en h => ts en ds h) = _; rw [p, ok_bind, q]
theorem turn_ok {elt : Den} {tg : DenT} {ifs : En → Hh → Out Bool} (p : tg en (.d d) h = .ok en1 h1) (q : ifs en1 h1 = .ok true h2) (s : elt en1 h2 = .ok r h3) : kTurn elt tg ifs en d h = .ok (some r.toD) h3 := by
  unfold kTurn; rw [p, ok_bind, q, ok_bind]; show ((elt en1 h2).bind fun r h => Out.ok (some r.toD) h) = _; rw [s, ok_bind]
theorem turn_no {elt : Den} {tg : DenT} {ifs : En → Hh → Out Bool} (p : tg en (.d d) h = .ok en1 h1) (q : ifs en1 h1 = .ok false h2) : kTurn elt tg ifs en d h = .ok none h2 := by
  unfold kTurn; rw [p, ok_bind, q, ok_bind]
theorem yes_ok : kYes en h = .ok true h := rfl
theorem if1_t {es : En → Hh → Out Bool} {k : Bool} (p : e en h = .ok x h1) (t : truth h1 x = some true) (q : es en h1 = .ok k h2) : kIf e es en h = .ok k h2 := by unfold kIf; rw [p, ok_bind]; show (match truth h1 x with | some true => _ | some false => _ | none => _) = _; rw [t]; exact q
theorem if1_f {es : En → Hh → Out Bool} (p : e en h = .ok x h1) (t : truth h1 x = some false) : kIf e es en h = .ok false h1 := by unfold kIf; rw [p, ok_bind]; show (match truth h1 x with | some true => _ | some false => _ | none => _) = _; rw [t]
theorem ie_ok {c : Cur} (p : a en h = .ok r h1) (s : curOf h1 r = some c) : kIe a en h = .ok c h1 := by unfold kIe; rw [p, ok_bind, s]; rfl
theorem rg_ok {n : Nat} (p : a en h = .ok (.d (.int n)) h1) (hn : n < 1000000) : kRg1 a en h = .ok (.st (nums n)) h1 := by unfold kRg1; rw [p, ok_bind, rg1_n n h1 hn]
theorem en_ok {c : Cur} (p : a en h = .ok r h1) (s : curOf h1 r = some c) : kEn a en h = .ok (.en 0 c) h1 := by unfold kEn enR; rw [p, ok_bind, s]
theorem zp_ok {c d : Cur} (p : a en h = .ok x h1) (q : b en h1 = .ok y h2) (s : curOf h2 x = some c) (t : curOf h2 y = some d) : kZp a b en h = .ok (.zp c d) h2 := by unfold kZp zpR; rw [p, ok_bind, q, ok_bind, s, t]
theorem for_ok {t : DenT} {it : DenI} {body : DenS} {c : Cur} {o : Out Fl} (p : it en h = .ok c h1) (q : forLoop (fun d en h => (t en (.d d) h).bind fun en h => body en h) FUEL c en h1 = o) : kFor t it body en h = o := by unfold kFor; rw [p, ok_bind]; exact q
theorem pass_ok : kPass en h = .ok (.nx en) h := rfl
theorem seq_asg {e : Den} {i : Nat} {b : DenS} {en : En} {h h' : Hh} {r : R} {o : Out Fl} (e1 : e en h = .ok r h') (hi : i < en.length) (k : b (en.set i (some r.toD)) h' = o) : kSeq (kAsg (kNm i) e) b en h = o :=
  (seq_nx (asg_ok e1 (nm_ok hi))).trans k
end
end MP
end

section
set_option Elab.async false
set_option linter.all false
set_option maxRecDepth 100000
set_option maxHeartbeats 4000000
namespace MP
open PySem
theorem ln0 : line 0 = true := line_lt (by decide)
theorem ln1 : line 1 = true := line_lt (by decide)
theorem ln2 : line 2 = true := line_lt (by decide)
theorem ln3 : line 3 = true := line_lt (by decide)
/-! ## the laws' own functions -/
def bLines : Ss := (.cons (.asg (.nm 1) (.lc (.lc (.tup (.cons (.v 3) (.cons (.v 4) .nil))) (.nm 4) (.rg1 (.v 0)) .nil [4]) (.nm 3) (.rg1 (.v 0)) .nil [3])) (.cons (.asg (.nm 2) (.lc (.lc (.tup (.cons (.v 3) (.cons (.v 4) .nil))) (.nm 3) (.rg1 (.v 0)) .nil [3]) (.nm 4) (.rg1 (.v 0)) .nil [4])) (.cons (.ret (.bin .Add (.bin .Add (.v 1) (.v 2)) (.lst (.cons (.lc (.tup (.cons (.v 3) (.cons (.v 3) .nil))) (.nm 3) (.rg1 (.v 0)) .nil [3]) (.cons (.lc (.tup (.cons (.v 3) (.cons (.bin .Sub (.bin .Sub (.v 0) (.c (.int 1))) (.v 3)) .nil))) (.nm 3) (.rg1 (.v 0)) .nil [3]) .nil))))) .nil)))
def bLineSums (f : Nat) : Ss := (.cons (.ret (.lc (.bi .sum (.cons (.lc (.ix (.ix (.v 0) (.v 2)) (.v 3)) (.tp (.cons (.nm 2) (.cons (.nm 3) .nil))) (.e (.v 1)) .nil [2, 3]) .nil)) (.nm 1) (.e (.call f (.cons (.bi .len (.cons (.v 0) .nil)) .nil) .nil [0])) .nil [1])) .nil)
def bTurned : Ss := (.cons (.asg (.nm 2) (.bi .len (.cons (.v 0) .nil))) (.cons (.asg (.nm 3) (.v 0)) (.cons (.ite (.cmp .Gt (.v 1) (.c (.int 3))) (.cons (.asg (.nm 3) (.bi .tup (.cons (.lc (.bi .tup (.cons (.lc (.ix (.ix (.v 0) (.v 6)) (.v 5)) (.nm 6) (.rg1 (.v 2)) .nil [6]) .nil)) (.nm 5) (.rg1 (.v 2)) .nil [5]) .nil))) .nil) .nil) (.cons (.for (.nm 4) (.rg1 (.bin .Mod (.bi .int (.cons (.v 1) .nil)) (.c (.int 4)))) (.cons (.asg (.nm 3) (.bi .tup (.cons (.lc (.bi .tup (.cons (.lc (.ix (.ix (.v 3) (.bin .Sub (.bin .Sub (.v 2) (.c (.int 1))) (.v 6))) (.v 5)) (.nm 6) (.rg1 (.v 2)) .nil [6]) .nil)) (.nm 5) (.rg1 (.v 2)) .nil [5]) .nil))) .nil)) (.cons (.ret (.v 3)) .nil)))))
def bSums : Ss := (.cons (.asg (.tp (.cons (.nm 3) (.cons (.nm 4) .nil))) (.tup (.cons (.bi .len (.cons (.v 0) .nil)) (.cons (.bi .lrng1 (.cons (.bi .len (.cons (.v 0) .nil)) .nil)) .nil)))) (.cons (.asg (.nm 1) (.bi .tup (.cons (.lc (.bi .sum (.cons (.v 7) .nil)) (.nm 7) (.e (.v 0)) .nil [7]) .nil))) (.cons (.asg (.nm 2) (.bi .tup (.cons (.lc (.bi .sum (.cons (.lc (.ix (.v 7) (.v 8)) (.nm 7) (.e (.v 0)) .nil [7]) .nil)) (.nm 8) (.e (.v 4)) .nil [8]) .nil))) (.cons (.asg (.tp (.cons (.nm 5) (.cons (.nm 6) .nil))) (.tup (.cons (.bi .sum (.cons (.lc (.ix (.ix (.v 0) (.v 9)) (.v 9)) (.nm 9) (.e (.v 4)) .nil [9]) .nil)) (.cons (.bi .sum (.cons (.lc (.ix (.ix (.v 0) (.v 9)) (.bin .Sub (.bin .Sub (.v 3) (.c (.int 1))) (.v 9))) (.nm 9) (.e (.v 4)) .nil [9]) .nil)) .nil)))) (.cons (.ret (.tup (.cons (.v 1) (.cons (.v 2) (.cons (.tup (.cons (.v 5) (.cons (.v 6) .nil))) .nil))))) .nil)))))
def bEven (f : Nat) : Ss := (.cons (.asg (.tp (.cons (.nm 1) (.cons (.nm 2) (.cons (.nm 3) .nil)))) (.call f (.cons (.v 0) .nil) .nil [0])) (.cons (.ret (.cmp .Eq (.bi .lenset (.cons (.bin .Add (.bin .Add (.v 1) (.v 2)) (.v 3)) .nil)) (.c (.int 1)))) .nil))
def pr (i j : Int) : D := .tup [.int i, .int j]
def rowsL (n : Nat) : List D := (List.range n).map fun i => .lst ((List.range n).map fun j => pr (i : Nat) (j : Nat))
def colsL (n : Nat) : List D := (List.range n).map fun j => .lst ((List.range n).map fun i => pr (i : Nat) (j : Nat))
def fallL (n : Nat) : D := .lst ((List.range n).map fun i => pr (i : Nat) (i : Nat))
def riseL (n : Nat) : D := .lst ((List.range n).map fun i => pr (i : Nat) ((n : Int) - 1 - (i : Nat)))
def linesD (n : Nat) : List D := rowsL n ++ colsL n ++ [fallL n, riseL n]
theorem add_fl (a b : List D) (h : Hh) (l : a.length + b.length ≤ 10000000) : addD (.fl a) (.fl b) h = some (.fl (a ++ b)) := by
  show (if line (a.length + b.length) then _ else none) = _
  rw [line_lt l]; rfl
theorem add_ll (a b : List D) (h : Hh) (l : a.length + b.length ≤ 10000000) : addD (.d (.lst a)) (.d (.lst b)) h = some (.fl (a ++ b)) := add_fl a b h l
theorem add_tt (a b : List D) (h : Hh) (l : a.length + b.length ≤ 10000000) : addD (.d (.tup a)) (.d (.tup b)) h = some (.d (.tup (a ++ b))) := by
  show (if line (a.length + b.length) then _ else none) = _
  rw [line_lt l]; rfl
section
variable (cl : Cl) (cs : List D)
theorem lines_body (n : Nat) (hn : n < 1000) (h : Hh) : dSs cl cs bLines [some (.int n), none, none, none, none] h = .ok (.rt (.fl (linesD n))) h := by
  have hF : n < FUEL := by unfold FUEL; omega
  have rg : ∀ (x1 x2 x3 x4 : Option D) (h : Hh), kRg1 (kV 0) [some (.int n), x1, x2, x3, x4] h = .ok (.st (nums n)) h := fun _ _ _ _ h => rg_ok (v_ok rfl) (by omega)
  have i1 := fun (i : Nat) (x1 x2 x4 : Option D) (h : Hh) => kLc_tab (elt := kTup (kCons (kV 3) (kCons (kV 4) kNil))) (tg := kNm 4) (ifs := kYes) (own := [4]) (fun j => pr (i : Nat) (j : Nat)) (rg x1 x2 (some (.int i)) x4 h) hF fun j hj =>
    turn_ok (nm_ok (lt_b rfl)) yes_ok (tup_ok (cons_ok (v_ok rfl) (cons_ok (v_ok rfl) nil_ok)) ln2)
  have i2 := fun (j : Nat) (x1 x2 x3 : Option D) (h : Hh) => kLc_tab (elt := kTup (kCons (kV 3) (kCons (kV 4) kNil))) (tg := kNm 3) (ifs := kYes) (own := [3]) (fun i => pr (i : Nat) (j : Nat)) (rg x1 x2 x3 (some (.int j)) h) hF fun i hi =>
    turn_ok (nm_ok (lt_b rfl)) yes_ok (tup_ok (cons_ok (v_ok rfl) (cons_ok (v_ok rfl) nil_ok)) ln2)
  have o1 := fun (x1 x2 x3 x4 : Option D) (h : Hh) => kLc_tab (elt := kLc (kTup (kCons (kV 3) (kCons (kV 4) kNil))) (kNm 4) (kRg1 (kV 0)) kYes [4]) (tg := kNm 3) (ifs := kYes) (own := [3]) (fun i => D.lst ((List.range n).map fun j => pr (i : Nat) (j : Nat))) (rg x1 x2 x3 x4 h) hF fun i hi =>
    turn_ok (en1 := [some (.int n), x1, x2, some (.int i), x4]) (nm_ok (lt_b rfl)) yes_ok (i1 i x1 x2 x4 h)
  have o2 := fun (x1 x2 x3 x4 : Option D) (h : Hh) => kLc_tab (elt := kLc (kTup (kCons (kV 3) (kCons (kV 4) kNil))) (kNm 3) (kRg1 (kV 0)) kYes [3]) (tg := kNm 4) (ifs := kYes) (own := [4]) (fun j => D.lst ((List.range n).map fun i => pr (i : Nat) (j : Nat))) (rg x1 x2 x3 x4 h) hF fun i hi =>
    turn_ok (en1 := [some (.int n), x1, x2, x3, some (.int i)]) (nm_ok (lt_b rfl)) yes_ok (i2 i x1 x2 x3 h)
  have o3 := fun (x1 x2 x3 x4 : Option D) (h : Hh) => kLc_tab (elt := kTup (kCons (kV 3) (kCons (kV 3) kNil))) (tg := kNm 3) (ifs := kYes) (own := [3]) (fun i => pr (i : Nat) (i : Nat)) (rg x1 x2 x3 x4 h) hF fun i hi =>
    turn_ok (nm_ok (lt_b rfl)) yes_ok (tup_ok (cons_ok (v_ok rfl) (cons_ok (v_ok rfl) nil_ok)) ln2)
  have e4 : ∀ (x1 x2 x4 : Option D) (i : Nat) (h : Hh), kBin .Sub (kBin .Sub (kV 0) (kC (.int 1))) (kV 3) [some (.int n), x1, x2, some (.int i), x4] h = .ok (.d (.int ((n : Int) - 1 - (i : Nat)))) h := fun x1 x2 x4 i h =>
    bin_ok (x := .d (.int ((n : Int) - 1))) (y := .d (.int (i : Nat))) (bin_ok (x := .d (.int (n : Int))) (y := .d (.int 1)) (v_ok rfl) c_ok (sub_i _ _ h)) (v_ok rfl) (sub_i _ _ h)
  have o4 := fun (x1 x2 x3 x4 : Option D) (h : Hh) => kLc_tab (elt := kTup (kCons (kV 3) (kCons (kBin .Sub (kBin .Sub (kV 0) (kC (.int 1))) (kV 3)) kNil))) (tg := kNm 3) (ifs := kYes) (own := [3]) (fun i => pr (i : Nat) ((n : Int) - 1 - (i : Nat))) (rg x1 x2 x3 x4 h) hF fun i hi =>
    turn_ok (en1 := [some (.int n), x1, x2, some (.int i), x4]) (r := .d (pr (i : Nat) ((n : Int) - 1 - (i : Nat)))) (nm_ok (lt_b rfl)) yes_ok (tup_ok (rs := [.d (.int (i : Nat)), .d (.int ((n : Int) - 1 - (i : Nat)))]) (cons_ok (v_ok rfl) (cons_ok (e4 x1 x2 x4 i h) nil_ok)) ln2)
  have a1 := add_ll (rowsL n) (colsL n) h (by unfold rowsL colsL; simp; omega)
  have a2 := add_fl (rowsL n ++ colsL n) [fallL n, riseL n] h (by unfold rowsL colsL; simp; omega)
  unfold bLines
  simp only [dSs, dS, dE, dEs, dT, dI, dIf]
  exact seq_asg (o1 _ _ _ _ h) (lt_b rfl) (seq_asg (o2 _ _ _ _ h) (lt_b rfl) (seq_rt (ret_ok (bin_ok (bin_ok (v_ok rfl) (v_ok rfl) a1) (lst_ok (cons_ok (o3 _ _ _ _ h) (cons_ok (o4 _ _ _ _ h) nil_ok)) ln2) a2))))
end
/-! ### values without lists of the heap -/
def nr : Nat → D → Bool
  | 0, _ => false
  | k + 1, d => match d with
    | .tup ds => ds.all (nr k)
    | .lst ds => ds.all (nr k)
    | .xt ds => ds.all (nr k)
    | .ref _ => false
    | .dct _ _ => false
    | _ => true
theorem nr_frz : ∀ (k : Nat) (d : D), nr k d = true → ∀ h n, frz h n k d = some d
  | 0, _, e, _, _ => by cases e
  | k + 1, d, e, h, n => by
    have all : ∀ ds : List D, ds.all (nr k) = true → allO (ds.map (frz h n k)) = some ds := fun ds => by
      induction ds with
      | nil => intro _; rfl
      | cons x ds ih =>
        intro e
        rw [List.all_cons, Bool.and_eq_true] at e
        show allO (frz h n k x :: ds.map (frz h n k)) = _
        rw [nr_frz k x e.1 h n]
        unfold allO
        rw [ih e.2]
    cases d with
    | tup ds => show (match allO (ds.map (frz h n k)) with | some l => some (D.tup l) | none => none) = _; rw [all ds e]
    | lst ds => show (match allO (ds.map (frz h n k)) with | some l => some (D.lst l) | none => none) = _; rw [all ds e]
    | xt ds => show (match allO (ds.map (frz h n k)) with | some l => some (D.xt l) | none => none) = _; rw [all ds e]
    | ref m => cases e
    | dct a b => cases e
    | _ => rfl
theorem nr_low : ∀ (k : Nat) (d : D), nr k d = true → ∀ n, lowD n d = true
  | 0, _, e, _ => by cases e
  | k + 1, d, e, n => by
    have all : ∀ ds : List D, ds.all (nr k) = true → lowAll n ds = true := fun ds => by
      induction ds with
      | nil => intro _; rfl
      | cons x ds ih =>
        intro e
        rw [List.all_cons, Bool.and_eq_true] at e
        show (lowD n x && lowAll n ds) = true
        rw [nr_low k x e.1 n, ih e.2]; rfl
    cases d with
    | tup ds => show lowAll n ds = true; exact all ds e
    | lst ds => show lowAll n ds = true; exact all ds e
    | xt ds => show lowAll n ds = true; exact all ds e
    | ref m => cases e
    | dct a b => cases e
    | _ => rfl
def nrR : R → Bool
  | .d d => nr 40 d
  | .fl ds => ds.all (nr 40)
theorem fin_nr {r : R} (e : nrR r = true) (n : Nat) (h : Hh) : fin n true r h = .ok r (h.take n) := by
  cases r with
  | d x =>
    unfold fin
    rw [if_pos rfl, show frzR h n (.d x) = some (.d x) from by show (frz h n 40 x).map R.d = _; rw [nr_frz 40 x e]; rfl]
    show (if lowD n x = true then _ else _) = _
    rw [if_pos (nr_low 40 x e n)]
  | fl ds =>
    have a1 : ∀ ds : List D, ds.all (nr 40) = true → allO (ds.map (frz h n 40)) = some ds := fun ds => by
      induction ds with
      | nil => intro _; rfl
      | cons x ds ih =>
        intro e
        rw [List.all_cons, Bool.and_eq_true] at e
        show allO (frz h n 40 x :: ds.map (frz h n 40)) = _
        rw [nr_frz 40 x e.1 h n]
        unfold allO
        rw [ih e.2]
    have a2 : ∀ ds : List D, ds.all (nr 40) = true → lowAll n ds = true := fun ds => by
      induction ds with
      | nil => intro _; rfl
      | cons x ds ih =>
        intro e
        rw [List.all_cons, Bool.and_eq_true] at e
        show (lowD n x && lowAll n ds) = true
        rw [nr_low 40 x e.1 n, ih e.2]; rfl
    unfold fin
    rw [if_pos rfl, show frzR h n (.fl ds) = some (.fl ds) from by show (allO (ds.map (frz h n 40))).map R.fl = _; rw [a1 ds e]; rfl]
    show (if lowAll n ds = true then _ else _) = _
    rw [if_pos (a2 ds e)]
theorem nr_all {k : Nat} {ds : List D} (e : ds.all (nr k) = true) (n : Nat) : lowAll n ds = true := by
  induction ds with
  | nil => rfl
  | cons x ds ih =>
    rw [List.all_cons, Bool.and_eq_true] at e
    show (lowD n x && lowAll n ds) = true
    rw [nr_low k x e.1 n, ih e.2]; rfl
section
variable {cs : List D} {fds : List FD} {k i : Nat} {fd : FD} {ds : List D} {r : R}
/-- a def that sees no list of the heap -/
theorem fn_pure (e : fds[i]? = some fd) (l : ds.length = fd.ps.length ∧ fd.ps.length ≤ fd.N.length) (z : fd.fz = true) (lo : ds.all (nr 40) = true) (nn : nrR r = true)
    (b : dSs (runF cs fds k) cs fd.body (ds.map some ++ List.replicate (fd.N.length - ds.length) none) [] = .ok (.rt r) []) (h : Hh) : callD (runF cs fds (k + 1)) i ds h = .ok r h := by
  refine callD_cl h (nr_all lo 0) ?_
  rw [run_rt e l b, z, fin_nr nn]
  rfl
theorem nr_tab {k n : Nat} {f : Nat → D} (hf : ∀ i, i < n → nr k (f i) = true) : ((List.range n).map f).all (nr k) = true := by
  rw [List.all_map, List.all_eq_true]
  exact fun i hi => hf i (List.mem_range.mp hi)
theorem nr_row (k n : Nat) (r : Nat → Int) : nr (k + 2) (rowF n r) = true := nr_tab fun _ _ => rfl
theorem nr_sq (k n : Nat) (c : Nat → Nat → Int) : nr (k + 3) (sqF n c) = true := nr_tab fun _ _ => nr_row k n _
theorem nr_prs (n : Nat) (f g : Nat → Int) : nr 40 (.lst ((List.range n).map fun i => pr (f i) (g i))) = true := nr_tab (k := 39) fun _ _ => rfl
theorem nr_lines (n : Nat) : (linesD n).all (nr 40) = true := by
  unfold linesD
  rw [List.all_append, List.all_append, show (rowsL n).all (nr 40) = true from nr_tab fun i _ => nr_prs n (fun _ => i) fun j => j, show (colsL n).all (nr 40) = true from nr_tab fun j _ => nr_prs n (fun i => i) fun _ => j]
  show (true && true && (nr 40 (fallL n) && (nr 40 (riseL n) && true))) = true
  rw [show nr 40 (fallL n) = true from nr_prs n (fun i => i) fun i => i, show nr 40 (riseL n) = true from nr_prs n (fun i => i) fun i => (n : Int) - 1 - (i : Nat)]
  rfl
theorem lines_call (e : fds[i]? = some fd) (eb : fd.body = bLines) (z : fd.fz = true) (ep : fd.ps.length = 1) (eN : fd.N.length = 5) (n : Nat) (hn : n < 1000) (h : Hh) : callD (runF cs fds (k + 1)) i [.int n] h = .ok (.fl (linesD n)) h :=
  fn_pure e (by rw [ep, eN]; exact ⟨rfl, by decide⟩) z rfl (show nrR (.fl (linesD n)) = true from nr_lines n) (by rw [eb, eN]; exact lines_body _ cs n hn []) h
/-! ### sums of lines -/
/-- in the order of the law -/
def sumsL (n : Nat) (c : Nat → Nat → Int) : List D := ((List.range n).map fun i => D.int (sm n (c i))) ++ ((List.range n).map fun j => D.int (sm n fun i => c i j)) ++ [.int (sm n fun i => c i i), .int (sm n fun i => c i (n - 1 - i))]
theorem lineSums_body (f : Nat) (cl : Cl) (n : Nat) (hn : n < 1000) (c : Nat → Nat → Int) (h : Hh) (hc : callD cl f [.int n] h = .ok (.fl (linesD n)) h) : dSs cl cs (bLineSums f) [some (sqF n c), none, none, none] h = .ok (.rt (.fl (sumsL n c))) h := by
  have hF : n < FUEL := by unfold FUEL; omega
  have cell : ∀ (x1 : Option D) (i j : Nat), i < n → j < n → kIx (kIx (kV 0) (kV 2)) (kV 3) [some (sqF n c), x1, some (.int i), some (.int j)] h = .ok (.d (.int (c i j))) h := fun x1 i j hi hj =>
    ix_ok (ix_ok (v_ok rfl) (v_ok rfl) (ix_sq hi h)) (v_ok rfl) (ix_row hj h)
  -- one line
  have one : ∀ (g1 g2 : Nat → Nat) (ln : D), (∀ i, i < n → g1 i < n ∧ g2 i < n) → ln = .lst ((List.range n).map fun i => pr (g1 i : Nat) (g2 i : Nat)) → kTurn (kBi .sum (kCons (kLc (kIx (kIx (kV 0) (kV 2)) (kV 3)) (kTp (kTcons (kNm 2) (kTcons (kNm 3) kTnil))) (kIe (kV 1)) kYes [2, 3]) kNil)) (kNm 1) kYes
      (wipeE [some (sqF n c), none, none, none] [1]) ln h = .ok (some (.int (sm n fun i => c (g1 i) (g2 i)))) h := fun g1 g2 ln hg e => by
    subst e
    refine turn_ok (en1 := [some (sqF n c), some (.lst ((List.range n).map fun i => pr (g1 i : Nat) (g2 i : Nat))), none, none]) (r := .d (.int (sm n fun i => c (g1 i) (g2 i)))) (nm_ok (lt_b rfl)) yes_ok ?_
    refine bi_ok (cons_ok (kLc_tab (g := fun i => pr (g1 i : Nat) (g2 i : Nat)) (fun i => D.int (c (g1 i) (g2 i))) (ie_ok (v_ok rfl) (cur_lst _ h)) hF fun i hi => ?_) nil_ok) (sum_fl _ _ h)
    exact turn_ok (en1 := [some (sqF n c), some (.lst ((List.range n).map fun i => pr (g1 i : Nat) (g2 i : Nat))), some (.int (g1 i : Nat)), some (.int (g2 i : Nat))]) (r := .d (.int (c (g1 i) (g2 i)))) (tp_ok (ds := [.int (g1 i : Nat), .int (g2 i : Nat)]) rfl (tcons_ok (nm_ok (lt_b rfl)) (tcons_ok (nm_ok (lt_b rfl)) tnil_ok))) yes_ok (cell _ _ _ (hg i hi).1 (hg i hi).2)
  unfold bLineSums
  simp only [dSs, dS, dE, dEs, dT, dTs, dI, dIf]
  refine seq_rt (ret_ok ?_)
  have it : kIe (kCall cl f (kCons (kBi .len (kCons (kV 0) kNil)) kNil) kNil [0]) [some (sqF n c), none, none, none] h = .ok (.st (linesD n)) h :=
    ie_ok (call_ok (cons_ok (bi_ok (cons_ok (v_ok rfl) nil_ok) (len_sq n c h)) nil_ok) nil_ok rfl hc) (cur_fl _ h)
  refine kLc_all2 it (Ys_st _) ?_ (by unfold linesD rowsL colsL FUEL; simp; omega)
  unfold linesD sumsL
  refine .app (.app (.tab fun i hi => ?_) (.tab fun j hj => ?_)) (.cons ?_ (.cons ?_ .nil))
  · exact one (fun _ => i) (fun j => j) _ (fun j hj => ⟨hi, hj⟩) rfl
  · exact one (fun i => i) (fun _ => j) _ (fun i hi => ⟨hi, hj⟩) rfl
  · exact one (fun i => i) (fun i => i) _ (fun i hi => ⟨hi, hi⟩) rfl
  · refine one (fun i => i) (fun i => n - 1 - i) _ (fun i hi => ⟨hi, by omega⟩) ?_
    unfold riseL
    congr 1
    refine List.map_congr_left fun i hi => ?_
    have := List.mem_range.mp hi
    unfold pr
    rw [show ((n - 1 - i : Nat) : Int) = (n : Int) - 1 - (i : Nat) by omega]
theorem nr_sums (n : Nat) (c : Nat → Nat → Int) : (sumsL n c).all (nr 40) = true := by
  unfold sumsL
  rw [List.all_append, List.all_append, nr_tab (k := 40) (fun _ _ => rfl), nr_tab (k := 40) (fun _ _ => rfl)]
  rfl
theorem lineSums_call {f : Nat} {fl : FD} (e : fds[i]? = some fd) (eb : fd.body = bLineSums f) (z : fd.fz = true) (ep : fd.ps.length = 1) (eN : fd.N.length = 4)
    (e2 : fds[f]? = some fl) (eb2 : fl.body = bLines) (z2 : fl.fz = true) (ep2 : fl.ps.length = 1) (eN2 : fl.N.length = 5) (n : Nat) (hn : n < 1000) (c : Nat → Nat → Int) (h : Hh) : callD (runF cs fds (k + 2)) i [sqF n c] h = .ok (.fl (sumsL n c)) h :=
  fn_pure e (by rw [ep, eN]; exact ⟨rfl, by decide⟩) z (by rw [List.all_cons, nr_sq 37]; rfl) (show nrR (.fl (sumsL n c)) = true from nr_sums n c) (by rw [eb, eN]; exact lineSums_body f _ n hn c [] (lines_call e2 eb2 z2 ep2 eN2 n hn [])) h
/-! ### line_sums -/
def sumsT (n : Nat) (c : Nat → Nat → Int) : D := .tup [rowF n fun i => sm n (c i), rowF n fun j => sm n fun i => c i j, .tup [.int (sm n fun i => c i i), .int (sm n fun i => c i (n - 1 - i))]]
theorem sums_body (cl : Cl) (n : Nat) (hn : n < 1000) (c : Nat → Nat → Int) (h : Hh) : dSs cl cs bSums [some (sqF n c), none, none, none, none, none, none, none, none, none] h = .ok (.rt (.d (sumsT n c))) h := by
  have hF : n < FUEL := by unfold FUEL; omega
  have cell : ∀ (en : En) (a b : Den) (i j : Nat), en[0]? = some (some (sqF n c)) → a en h = .ok (.d (.int (i : Nat))) h → b en h = .ok (.d (.int (j : Nat))) h → i < n → j < n → kIx (kIx (kV 0) a) b en h = .ok (.d (.int (c i j))) h := fun en a b i j e0 ea eb hi hj =>
    ix_ok (ix_ok (v_ok e0) ea (ix_sq hi h)) eb (ix_row hj h)
  unfold bSums
  simp only [dSs, dS, dE, dEs, dT, dTs, dI, dIf]
  have s1 : kAsg (kTp (kTcons (kNm 3) (kTcons (kNm 4) kTnil))) (kTup (kCons (kBi .len (kCons (kV 0) kNil)) (kCons (kBi .lrng1 (kCons (kBi .len (kCons (kV 0) kNil)) kNil)) kNil))) [some (sqF n c), none, none, none, none, none, none, none, none, none] h =
      .ok (.nx [some (sqF n c), none, none, some (.int n), some (.lst (nums n)), none, none, none, none, none]) h :=
    asg_ok (tup_ok (rs := [.d (.int n), .fl (nums n)]) (cons_ok (bi_ok (cons_ok (v_ok rfl) nil_ok) (len_sq n c h)) (cons_ok (bi_ok (cons_ok (bi_ok (cons_ok (v_ok rfl) nil_ok) (len_sq n c h)) nil_ok) (lrng_n n h (by omega))) nil_ok)) ln2)
      (tp_ok (ds := [.int n, .lst (nums n)]) rfl (tcons_ok (nm_ok (lt_b rfl)) (tcons_ok (nm_ok (lt_b rfl)) tnil_ok)))
  rw [seq_nx s1]
  have s2 : kBi .tup (kCons (kLc (kBi .sum (kCons (kV 7) kNil)) (kNm 7) (kIe (kV 0)) kYes [7]) kNil) [some (sqF n c), none, none, some (.int n), some (.lst (nums n)), none, none, none, none, none] h = .ok (.d (rowF n fun i => sm n (c i))) h :=
    bi_ok (cons_ok (kLc_tab (g := fun i => rowF n (c i)) (fun i => D.int (sm n (c i))) (ie_ok (v_ok rfl) (cur_sq n c h)) hF fun i hi =>
      turn_ok (r := .d (.int (sm n (c i)))) (nm_ok (lt_b rfl)) yes_ok (bi_ok (cons_ok (v_ok rfl) nil_ok) (sum_row n (c i) h))) nil_ok) (tup_fl _ h)
  refine seq_asg s2 (lt_b rfl) ?_
  simp only [toD_d, List.set_cons_succ, List.set_cons_zero]
  have i3 : ∀ (x : Option D) (j : Nat), j < n → kLc (kIx (kV 7) (kV 8)) (kNm 7) (kIe (kV 0)) kYes [7] [some (sqF n c), x, none, some (.int n), some (.lst (nums n)), none, none, none, some (.int (j : Nat)), none] h = .ok (.fl ((List.range n).map fun i => D.int (c i j))) h := fun x j hj =>
    kLc_tab (g := fun i => rowF n (c i)) (fun i => D.int (c i j)) (ie_ok (v_ok rfl) (cur_sq n c h)) hF fun i hi =>
      turn_ok (en1 := [some (sqF n c), x, none, some (.int n), some (.lst (nums n)), none, none, some (rowF n (c i)), some (.int (j : Nat)), none]) (r := .d (.int (c i j))) (nm_ok (lt_b rfl)) yes_ok (ix_ok (v_ok rfl) (v_ok rfl) (ix_row hj h))
  have s3 : ∀ x : Option D, kBi .tup (kCons (kLc (kBi .sum (kCons (kLc (kIx (kV 7) (kV 8)) (kNm 7) (kIe (kV 0)) kYes [7]) kNil)) (kNm 8) (kIe (kV 4)) kYes [8]) kNil) [some (sqF n c), x, none, some (.int n), some (.lst (nums n)), none, none, none, none, none] h = .ok (.d (rowF n fun j => sm n fun i => c i j)) h := fun x =>
    bi_ok (cons_ok (kLc_tab (g := fun i => D.int (i : Nat)) (fun j => D.int (sm n fun i => c i j)) (ie_ok (v_ok rfl) (cur_lst _ h)) hF fun j hj =>
      turn_ok (en1 := [some (sqF n c), x, none, some (.int n), some (.lst (nums n)), none, none, none, some (.int (j : Nat)), none]) (r := .d (.int (sm n fun i => c i j))) (nm_ok (lt_b rfl)) yes_ok (bi_ok (cons_ok (i3 x j hj) nil_ok) (sum_fl n _ h))) nil_ok) (tup_fl _ h)
  refine seq_asg (s3 _) (lt_b rfl) ?_
  simp only [toD_d, List.set_cons_succ, List.set_cons_zero]
  have i4 : ∀ (x y : Option D) (b : Den) (g : Nat → Nat), (∀ i, i < n → g i < n ∧ b [some (sqF n c), x, y, some (.int n), some (.lst (nums n)), none, none, none, none, some (.int (i : Nat))] h = .ok (.d (.int (g i : Nat))) h) → kBi .sum (kCons (kLc (kIx (kIx (kV 0) (kV 9)) b) (kNm 9) (kIe (kV 4)) kYes [9]) kNil) [some (sqF n c), x, y, some (.int n), some (.lst (nums n)), none, none, none, none, none] h = .ok (.d (.int (sm n fun i => c i (g i)))) h := fun x y b g hg =>
    bi_ok (cons_ok (kLc_tab (g := fun i => D.int (i : Nat)) (fun i => D.int (c i (g i))) (ie_ok (v_ok rfl) (cur_lst _ h)) hF fun i hi =>
      turn_ok (en1 := [some (sqF n c), x, y, some (.int n), some (.lst (nums n)), none, none, none, none, some (.int (i : Nat))]) (r := .d (.int (c i (g i)))) (nm_ok (lt_b rfl)) yes_ok (cell _ _ _ i (g i) rfl (v_ok rfl) (hg i hi).2 hi (hg i hi).1)) nil_ok) (sum_fl n _ h)
  have s4 := fun (x y : Option D) => asg_ok (t := kTp (kTcons (kNm 5) (kTcons (kNm 6) kTnil))) (en' := [some (sqF n c), x, y, some (.int n), some (.lst (nums n)), some (.int (sm n fun i => c i i)), some (.int (sm n fun i => c i (n - 1 - i))), none, none, none]) (h'' := h) (tup_ok (rs := [.d (.int (sm n fun i => c i i)), .d (.int (sm n fun i => c i (n - 1 - i)))]) (cons_ok (i4 x y (kV 9) (fun i => i) fun i hi => ⟨hi, v_ok rfl⟩) (cons_ok (i4 x y (kBin .Sub (kBin .Sub (kV 3) (kC (.int 1))) (kV 9)) (fun i => n - 1 - i) fun i hi => ⟨by omega, by
      have e : ((n - 1 - i : Nat) : Int) = (n : Int) - 1 - (i : Nat) := by omega
      rw [e]
      exact bin_ok (x := .d (.int ((n : Int) - 1))) (y := .d (.int (i : Nat))) (bin_ok (x := .d (.int (n : Int))) (y := .d (.int 1)) (v_ok rfl) c_ok (sub_i _ _ h)) (v_ok rfl) (sub_i _ _ h)⟩) nil_ok)) ln2)
    (tp_ok (ds := [.int (sm n fun i => c i i), .int (sm n fun i => c i (n - 1 - i))]) rfl (tcons_ok (nm_ok (lt_b rfl)) (tcons_ok (nm_ok (lt_b rfl)) tnil_ok)))
  rw [seq_nx (s4 _ _)]
  exact seq_rt (ret_ok (tup_ok (rs := [.d (rowF n fun i => sm n (c i)), .d (rowF n fun j => sm n fun i => c i j), .d (.tup [.int (sm n fun i => c i i), .int (sm n fun i => c i (n - 1 - i))])]) (cons_ok (v_ok rfl) (cons_ok (v_ok rfl) (cons_ok (tup_ok (rs := [.d (.int (sm n fun i => c i i)), .d (.int (sm n fun i => c i (n - 1 - i)))]) (cons_ok (v_ok rfl) (cons_ok (v_ok rfl) nil_ok)) ln2) nil_ok))) ln3))
theorem nr_sumsT (n : Nat) (c : Nat → Nat → Int) : nr 40 (sumsT n c) = true := by
  show (nr 39 (rowF n _) && (nr 39 (rowF n _) && (nr 39 (.tup [.int _, .int _]) && true))) = true
  rw [nr_row 37, nr_row 37]
  rfl
theorem sums_call (e : fds[i]? = some fd) (eb : fd.body = bSums) (z : fd.fz = true) (ep : fd.ps.length = 1) (eN : fd.N.length = 10) (n : Nat) (hn : n < 1000) (c : Nat → Nat → Int) (h : Hh) : callD (runF cs fds (k + 1)) i [sqF n c] h = .ok (.d (sumsT n c)) h :=
  fn_pure e (by rw [ep, eN]; exact ⟨rfl, by decide⟩) z (by rw [List.all_cons, nr_sq 37]; rfl) (show nrR (.d (sumsT n c)) = true from nr_sumsT n c) (by rw [eb, eN]; exact sums_body _ n hn c []) h
/-! ### squares made by comprehensions -/
theorem sq_comp {E : Den} {tgI tgJ : DenT} {itI itJ : DenI} {ownI ownJ : List Nat} {en : En} {h : Hh} {n : Nat} {cI : Cur} {cJ : Nat → Cur} (f : Nat → Nat → Int) {gi : Nat → D} {gj : Nat → Nat → D} {eni : Nat → En} {enij : Nat → Nat → En} (hn : n < 1000)
    (p1 : itI en h = .ok cI h) (y1 : Ys cI ((List.range n).map gi)) (t1 : ∀ i, i < n → tgI (wipeE en ownI) (.d (gi i)) h = .ok (eni i) h)
    (p2 : ∀ i, i < n → itJ (eni i) h = .ok (cJ i) h) (y2 : ∀ i, i < n → Ys (cJ i) ((List.range n).map (gj i))) (t2 : ∀ i j, i < n → j < n → tgJ (wipeE (eni i) ownJ) (.d (gj i j)) h = .ok (enij i j) h)
    (e : ∀ i j, i < n → j < n → E (enij i j) h = .ok (.d (.int (f i j))) h) :
    kBi .tup (kCons (kLc (kBi .tup (kCons (kLc E tgJ itJ kYes ownJ) kNil)) tgI itI kYes ownI) kNil) en h = .ok (.d (sqF n f)) h := by
  have hF : n < FUEL := by unfold FUEL; omega
  refine bi_ok (cons_ok (kLc_all2 p1 y1 (.tab (g := fun i => rowF n (f i)) fun i hi => ?_) (by simpa using hF)) nil_ok) (tup_fl _ h)
  refine turn_ok (r := .d (rowF n (f i))) (t1 i hi) yes_ok ?_
  refine bi_ok (cons_ok (kLc_all2 (p2 i hi) (y2 i hi) (.tab (g := fun j => D.int (f i j)) fun j hj => ?_) (by simpa using hF)) nil_ok) (tup_fl _ h)
  exact turn_ok (r := .d (.int (f i j))) (t2 i j hi hj) yes_ok (e i j hi hj)
theorem zipD_tab (n : Nat) (f g : Nat → D) : zipD ((List.range n).map f) ((List.range n).map g) = (List.range n).map fun i => .tup [f i, g i] := by
  have : ∀ l : List Nat, zipD (l.map f) (l.map g) = l.map fun i => .tup [f i, g i] := fun l => by
    induction l with
    | nil => rfl
    | cons x l ih => rw [List.map_cons, List.map_cons, List.map_cons, ← ih]; rfl
  exact this _
theorem Ys_zt (n : Nat) (f g : Nat → D) : Ys (.zp (.st ((List.range n).map f)) (.st ((List.range n).map g))) ((List.range n).map fun i => .tup [f i, g i]) := by
  rw [← zipD_tab]
  exact Ys_zp (Ys_st _) (Ys_st _) (by simp)
/-! ### is_even_square -/
def allS (n : Nat) (c : Nat → Nat → Int) : List Int := ((List.range n).map fun i => sm n (c i)) ++ ((List.range n).map fun j => sm n fun i => c i j) ++ [sm n fun i => c i i, sm n fun i => c i (n - 1 - i)]
def evenB (n : Nat) (c : Nat → Nat → Int) : Bool := decide (((dedup (allS n c)).length : Int) = 1)
theorem intsD_app : ∀ {a b : List D} {x y : List Int}, intsD a = some x → intsD b = some y → intsD (a ++ b) = some (x ++ y)
  | [], b, x, y, e, f => by cases e; exact f
  | .int i :: a, b, x, y, e, f => by
    show (match intsD (a ++ b) with | some l => some (i :: l) | none => none) = _
    have e : (match intsD a with | some l => some (i :: l) | none => none) = some x := e
    split at e
    · rename_i l hl
      cases e
      rw [intsD_app hl f]; rfl
    · cases e
  | .non :: _, _, _, _, e, _ => by cases e
  | .bl _ :: _, _, _, _, e, _ => by cases e
  | .str _ :: _, _, _, _, e, _ => by cases e
  | .rp _ :: _, _, _, _, e, _ => by cases e
  | .tup _ :: _, _, _, _, e, _ => by cases e
  | .lst _ :: _, _, _, _, e, _ => by cases e
  | .ref _ :: _, _, _, _, e, _ => by cases e
  | .dct _ _ :: _, _, _, _, e, _ => by cases e
  | .xt _ :: _, _, _, _, e, _ => by cases e
theorem even_body (f : Nat) (cl : Cl) (n : Nat) (hn : n < 1000) (c : Nat → Nat → Int) (h : Hh) (hc : callD cl f [sqF n c] h = .ok (.d (sumsT n c)) h) : dSs cl cs (bEven f) [some (sqF n c), none, none, none] h = .ok (.rt (.d (.bl (evenB n c)))) h := by
  unfold bEven
  simp only [dSs, dS, dE, dEs, dT, dTs, dI, dIf]
  have s1 : kAsg (kTp (kTcons (kNm 1) (kTcons (kNm 2) (kTcons (kNm 3) kTnil)))) (kCall cl f (kCons (kV 0) kNil) kNil [0]) [some (sqF n c), none, none, none] h =
      .ok (.nx [some (sqF n c), some (rowF n fun i => sm n (c i)), some (rowF n fun j => sm n fun i => c i j), some (.tup [.int (sm n fun i => c i i), .int (sm n fun i => c i (n - 1 - i))])]) h :=
    asg_ok (call_ok (cons_ok (v_ok rfl) nil_ok) nil_ok rfl hc) (tp_ok rfl (tcons_ok (nm_ok (lt_b rfl)) (tcons_ok (nm_ok (lt_b rfl)) (tcons_ok (nm_ok (lt_b rfl)) tnil_ok))))
  rw [seq_nx s1]
  have a1 := add_tt ((List.range n).map fun i => D.int (sm n (c i))) ((List.range n).map fun j => D.int (sm n fun i => c i j)) h (by simp; omega)
  have a2 := add_tt (((List.range n).map fun i => D.int (sm n (c i))) ++ ((List.range n).map fun j => D.int (sm n fun i => c i j))) [.int (sm n fun i => c i i), .int (sm n fun i => c i (n - 1 - i))] h (by simp; omega)
  have a3 : biD .lenset [.d (.tup (((List.range n).map fun i => D.int (sm n (c i))) ++ ((List.range n).map fun j => D.int (sm n fun i => c i j)) ++ [.int (sm n fun i => c i i), .int (sm n fun i => c i (n - 1 - i))]))] h = some (.d (.int (dedup (allS n c)).length)) := by
    show bLenset _ h = _
    unfold bLenset
    rw [show ints1 [.d (.tup (((List.range n).map fun i => D.int (sm n (c i))) ++ ((List.range n).map fun j => D.int (sm n fun i => c i j)) ++ [.int (sm n fun i => c i i), .int (sm n fun i => c i (n - 1 - i))]))] h = some (allS n c) from intsD_app (intsD_app (intsD_tab n _) (intsD_tab n _)) rfl]
    show (if (allS n c).length ≤ 4000 then _ else none) = _
    rw [if_pos (by unfold allS; simp; omega)]
  exact seq_rt (ret_ok (cmp_ok (x := .d (.int (dedup (allS n c)).length)) (y := .d (.int 1)) (bi_ok (cons_ok (bin_ok (bin_ok (v_ok rfl) (v_ok rfl) a1) (v_ok rfl) a2) nil_ok) a3) c_ok (eq_i _ _ h)))
theorem even_call {f : Nat} {fl : FD} (e : fds[i]? = some fd) (eb : fd.body = bEven f) (z : fd.fz = true) (ep : fd.ps.length = 1) (eN : fd.N.length = 4)
    (e2 : fds[f]? = some fl) (eb2 : fl.body = bSums) (z2 : fl.fz = true) (ep2 : fl.ps.length = 1) (eN2 : fl.N.length = 10) (n : Nat) (hn : n < 1000) (c : Nat → Nat → Int) (h : Hh) : callD (runF cs fds (k + 2)) i [sqF n c] h = .ok (.d (.bl (evenB n c))) h :=
  fn_pure e (by rw [ep, eN]; exact ⟨rfl, by decide⟩) z (by rw [List.all_cons, nr_sq 37]; rfl) rfl (by rw [eb, eN]; exact even_body f _ n hn c [] (sums_call e2 eb2 z2 ep2 eN2 n hn c [])) h
/-! ### turned squares -/
def rot (n : Nat) (c : Nat → Nat → Int) : Nat → Nat → Int := fun i j => c (n - 1 - j) i
def rots (n : Nat) (c : Nat → Nat → Int) : Nat → Nat → Nat → Int
  | 0 => c
  | k + 1 => rot n (rots n c k)
def turnF (n k : Nat) (c : Nat → Nat → Int) : Nat → Nat → Int := rots n (if 3 < k then fun i j => c j i else c) (k % 4)
theorem turned_body (cl : Cl) (n : Nat) (hn : n < 1000) (c : Nat → Nat → Int) (k : Nat) (h : Hh) : dSs cl cs bTurned [some (sqF n c), some (.int k), none, none, none, none, none] h = .ok (.rt (.d (sqF n (turnF n k c)))) h := by
  unfold bTurned
  simp only [dSs, dS, dE, dEs, dT, dTs, dI, dIf]
  refine seq_asg (bi_ok (cons_ok (v_ok rfl) nil_ok) (len_sq n c h)) (lt_b rfl) ?_
  refine seq_asg (v_ok rfl) (lt_b rfl) ?_
  simp only [toD_d, List.set_cons_succ, List.set_cons_zero]
  have rg : ∀ (en : En), en[2]? = some (some (.int n)) → kRg1 (kV 2) en h = .ok (.st (nums n)) h := fun en e => rg_ok (v_ok e) (by omega)
  have s3 : ∃ c1, c1 = (if 3 < k then fun i j => c j i else c) ∧ kIteS (kCmp .Gt (kV 1) (kC (.int 3))) (kSeq (kAsg (kNm 3) (kBi .tup (kCons (kLc (kBi .tup (kCons (kLc (kIx (kIx (kV 0) (kV 6)) (kV 5)) (kNm 6) (kRg1 (kV 2)) kYes [6]) kNil)) (kNm 5) (kRg1 (kV 2)) kYes [5]) kNil))) kPass) kPass
      [some (sqF n c), some (.int k), some (.int n), some (sqF n c), none, none, none] h = .ok (.nx [some (sqF n c), some (.int k), some (.int n), some (sqF n c1), none, none, none]) h := by
    have gt : cmpD .Gt (.d (.int k)) (.d (.int 3)) h = some (decide ((3 : Int) < k)) := rfl
    by_cases g : 3 < k
    · refine ⟨_, (if_pos g).symm, ?_⟩
      rw [decide_eq_true (by omega)] at gt
      refine (ite_t (h' := h) (r := .d (.bl true)) (cmp_ok (v_ok rfl) c_ok gt) rfl).trans ?_
      refine seq_asg (sq_comp (fun i j => c j i) hn (rg _ rfl) (Ys_st _) (fun i hi => nm_ok (lt_b rfl)) (fun i hi => rg _ rfl) (fun i hi => Ys_st _) (fun i j hi hj => nm_ok (lt_b rfl)) fun i j hi hj => ix_ok (ix_ok (v_ok rfl) (v_ok rfl) (ix_sq hj h)) (v_ok rfl) (ix_row hi h)) (lt_b rfl) ?_
      exact pass_ok
    · refine ⟨_, (if_neg g).symm, ?_⟩
      rw [decide_eq_false (by omega)] at gt
      exact (ite_f (h' := h) (r := .d (.bl false)) (cmp_ok (v_ok rfl) c_ok gt) rfl).trans pass_ok
  obtain ⟨c1, e1, s3⟩ := s3
  rw [seq_nx s3]
  have it : kRg1 (kBin .Mod (kBi .int (kCons (kV 1) kNil)) (kC (.int 4))) [some (sqF n c), some (.int k), some (.int n), some (sqF n c1), none, none, none] h = .ok (.st (nums (k % 4))) h := by
    refine rg_ok (n := k % 4) (bin_ok (x := .d (.int k)) (y := .d (.int 4)) (bi_ok (cons_ok (v_ok rfl) nil_ok) rfl) c_ok ?_) (by omega)
    rw [show binD .Mod (.d (.int k)) (.d (.int 4)) h = _ from mod_p (k : Int) 4 h (by decide)]
    rfl
  obtain ⟨en', h', e4, x, rfl, rfl⟩ := for_ys (step := fun d en h => (kNm 4 en (.d d) h).bind fun en h => kSeq (kAsg (kNm 3) (kBi .tup (kCons (kLc (kBi .tup (kCons (kLc (kIx (kIx (kV 3) (kBin .Sub (kBin .Sub (kV 2) (kC (.int 1))) (kV 6))) (kV 5)) (kNm 6) (kRg1 (kV 2)) kYes [6]) kNil)) (kNm 5) (kRg1 (kV 2)) kYes [5]) kNil))) kPass en h)
    (fun t en h' => ∃ x, en = [some (sqF n c), some (.int k), some (.int n), some (sqF n (rots n c1 t)), x, none, none] ∧ h' = h) (nums (k % 4)) (.st (nums (k % 4))) 0 FUEL [some (sqF n c), some (.int k), some (.int n), some (sqF n c1), none, none, none] h (Ys_st _) (by
      rintro j d hd en h' ⟨x, rfl, rfl⟩
      rw [Nat.zero_add]
      refine ⟨_, _, ?_, some d, rfl, rfl⟩
      rw [nm_ok (lt_b rfl), ok_bind]
      refine seq_asg (r := .d (sqF n (rots n c1 (j + 1)))) (sq_comp (rots n c1 (j + 1)) hn (rg _ rfl) (Ys_st _) (fun i hi => nm_ok (lt_b rfl)) (fun i hi => rg _ rfl) (fun i hi => Ys_st _) (fun i j hi hj => nm_ok (lt_b rfl)) fun i l hi hl => ?_) (lt_b rfl) pass_ok
      refine ix_ok (y := .d (.int (i : Nat))) (ix_ok (y := .d (.int ((n - 1 - l : Nat) : Int))) (v_ok rfl) ?_ (ix_sq (c := rots n c1 j) (by omega) h')) (v_ok rfl) (ix_row hi h')
      rw [show ((n - 1 - l : Nat) : Int) = (n : Int) - 1 - (l : Nat) by omega]
      exact bin_ok (x := .d (.int ((n : Int) - 1))) (y := .d (.int (l : Nat))) (bin_ok (x := .d (.int (n : Int))) (y := .d (.int 1)) (v_ok rfl) c_ok (sub_i _ _ h')) (v_ok rfl) (sub_i _ _ h')) (by simp [FUEL]; omega) ⟨none, rfl, rfl⟩
  rw [seq_nx (for_ok it e4)]
  refine seq_rt (ret_ok (v_ok ?_))
  unfold turnF
  rw [← e1]
  simp
theorem turned_call (e : fds[i]? = some fd) (eb : fd.body = bTurned) (z : fd.fz = true) (ep : fd.ps.length = 2) (eN : fd.N.length = 7) (n : Nat) (hn : n < 1000) (c : Nat → Nat → Int) (t : Nat) (h : Hh) : callD (runF cs fds (k + 1)) i [sqF n c, .int t] h = .ok (.d (sqF n (turnF n t c))) h :=
  fn_pure e (by rw [ep, eN]; exact ⟨rfl, by decide⟩) z (by rw [List.all_cons, nr_sq 37]; rfl) (show nrR (.d (sqF n (turnF n t c))) = true from nr_sq 37 n _) (by rw [eb, eN]; exact turned_body _ n hn c t []) h
end
end MP
end

section
set_option Elab.async false
set_option linter.all false
set_option maxRecDepth 100000
set_option maxHeartbeats 4000000
namespace MP
open PySem
/-! ## plain data: shown, compared with itself -/
structure Gd (B dp : Nat) (p : PyData) : Prop where
  lay : p.canLay0 = true
  dep : p.depth ≤ dp
  sh : p.showable = true
  nd : p.hasDict = false
  ok : rOk p = true
  rm : room p ≤ B
structure Gds (n B dp : Nat) (ps : List PyData) : Prop where
  lay : PyData.canLayAll0 ps = true
  dep : PyData.depthAll ps ≤ dp
  sh : PyData.showableAll ps = true
  nd : PyData.hasDictAll ps = false
  ok : rOks ps = true
  rm : rooms ps ≤ n * (B + 2)
theorem Gd.int (i : Int) (h : i.natAbs < 18446744073709551616) : Gd 70 0 (.int i) := by
  have hl : i.natAbs.log2 < 64 := by
    by_cases z : i.natAbs = 0
    · rw [z]; decide
    · exact (Nat.log2_lt z (k := 64)).mpr (by omega)
  refine ⟨by simp only [PyData.canLay0], by simp only [PyData.depth]; omega, ?_, by simp only [PyData.hasDict], rfl, ?_⟩
  · simp only [PyData.showable]
    exact decide_eq_true (by omega)
  · unfold room; omega
theorem Gds.nil {B dp : Nat} : Gds 0 B dp [] := ⟨by simp only [PyData.canLayAll0], by simp only [PyData.depthAll]; omega, by simp only [PyData.showableAll], by simp only [PyData.hasDictAll], rfl, by unfold rooms; omega⟩
theorem Gds.cons {n B dp : Nat} {p : PyData} {ps : List PyData} (g : Gd B dp p) (gs : Gds n B dp ps) : Gds (n + 1) B dp (p :: ps) := by
  refine ⟨by simp only [PyData.canLayAll0, g.lay, gs.lay, Bool.and_self], ?_, by simp only [PyData.showableAll, g.sh, gs.sh, Bool.and_self], by simp only [PyData.hasDictAll, g.nd, gs.nd, Bool.or_self], ?_, ?_⟩
  · have := g.dep; have := gs.dep
    simp only [PyData.depthAll]; omega
  · show (rOk p && rOks ps) = true
    rw [g.ok, gs.ok]; rfl
  · have := g.rm; have := gs.rm
    unfold rooms
    rw [Nat.add_mul]; omega
theorem Gds.tup {n B dp : Nat} {ps : List PyData} (g : Gds n B dp ps) : Gd (n * (B + 2) + 3) (dp + 1) (.tuple ps) := by
  refine ⟨by simp only [PyData.canLay0]; exact g.lay, by have := g.dep; simp only [PyData.depth]; omega, by simp only [PyData.showable]; exact g.sh, by simp only [PyData.hasDict]; exact g.nd, g.ok, ?_⟩
  have := g.rm
  unfold room; omega
theorem Gds.lst {n B dp : Nat} {ps : List PyData} (g : Gds n B dp ps) : Gd (n * (B + 2) + 3) (dp + 1) (.list ps) := by
  refine ⟨by simp only [PyData.canLay0]; exact g.lay, by have := g.dep; simp only [PyData.depth]; omega, by simp only [PyData.showable]; exact g.sh, by simp only [PyData.hasDict]; exact g.nd, g.ok, ?_⟩
  have := g.rm
  unfold room; omega
theorem Gds.tab {n B dp : Nat} {g : Nat → PyData} (h : ∀ i, i < n → Gd B dp (g i)) : Gds n B dp ((List.range n).map g) := by
  have : ∀ l : List Nat, (∀ i ∈ l, Gd B dp (g i)) → Gds l.length B dp (l.map g) := fun l => by
    induction l with
    | nil => exact fun _ => .nil
    | cons x l ih => exact fun h => .cons (h x List.mem_cons_self) (ih fun i hi => h i (List.mem_cons_of_mem _ hi))
  have z := this (List.range n) fun i hi => h i (List.mem_range.mp hi)
  rw [List.length_range] at z
  exact z
theorem Gd.mono {B B' dp dp' : Nat} {p : PyData} (g : Gd B dp p) (h1 : B ≤ B') (h2 : dp ≤ dp') : Gd B' dp' p := ⟨g.lay, Nat.le_trans g.dep h2, g.sh, g.nd, g.ok, Nat.le_trans g.rm h1⟩
theorem Gd.shaped {B dp : Nat} {p : PyData} (g : Gd B dp p) (h : dp ≤ 64) : SeqAt.shaped p = true := by
  show (p.canLay0 && decide (p.depth ≤ 64)) = true
  rw [g.lay, decide_eq_true (Nat.le_trans g.dep h)]; rfl
theorem repr_ok {r : R} {h : Hh} {p : PyData} {B dp : Nat} (e : py h deep r.toD = some p) (g : Gd B dp p) (hd : dp ≤ 40) (hB : B ≤ 10000000) : biD .repr [r] h = some (.d (.rp p)) := by
  show reprD r h = _
  unfold reprD
  rw [e]
  simp only [g.sh, g.nd, g.ok, decide_eq_true (Nat.le_trans g.dep hd), line_lt (Nat.le_trans g.rm hB), Bool.not_false, Bool.and_self, if_true]
theorem rp_eq (p : PyData) (h : Hh) : cmpD .Eq (.d (.rp p)) (.d (.rp p)) h = some true := by
  show some (same p p || (p.shown == p.shown)) = _
  rw [beq_self_eq_true, Bool.or_true]
theorem rp_ne (p : PyData) (h : Hh) : cmpD .NotEq (.d (.rp p)) (.d (.rp p)) h = some false := by
  show (match eqD (.d (.rp p)) (.d (.rp p)) h with | some b => some (!b) | none => none) = _
  rw [show eqD (.d (.rp p)) (.d (.rp p)) h = some true from rp_eq p h]; rfl
theorem eqD_self {r : R} {h : Hh} {p : PyData} (e : py h deep r.toD = some p) (s : SeqAt.shaped p = true) : eqD r r h = some true := by
  have base : (match py h deep r.toD, py h deep r.toD with
    | some a, some b => if SeqAt.shaped a && SeqAt.shaped b then some (PyData.eqv a b) else none
    | _, _ => none) = some true := by
    rw [e]
    simp only [s, Bool.and_self, if_true]
    rw [PySem.SeqAt.eqv_refl p (PySem.SeqAt.canLay_of_shaped s)]
  cases r with
  | fl ds => exact base
  | d x =>
    cases x with
    | int i => show some (decide (i = i)) = _; simp
    | rp q => show some (same q q || (q.shown == q.shown)) = _; rw [beq_self_eq_true, Bool.or_true]
    | _ => exact base
theorem ne_self {r : R} {h : Hh} {p : PyData} (e : py h deep r.toD = some p) (s : SeqAt.shaped p = true) : cmpD .NotEq r r h = some false := by
  show (match eqD r r h with | some b => some (!b) | none => none) = _
  rw [eqD_self e s]; rfl
theorem allO_tab {α : Type} {n : Nat} {f : Nat → Option α} {g : Nat → α} (h : ∀ i, i < n → f i = some (g i)) : allO ((List.range n).map f) = some ((List.range n).map g) := by
  have : ∀ l : List Nat, (∀ i ∈ l, f i = some (g i)) → allO (l.map f) = some (l.map g) := fun l => by
    induction l with
    | nil => exact fun _ => rfl
    | cons x l ih =>
      intro h
      rw [List.map_cons, h x List.mem_cons_self]
      unfold allO
      rw [ih fun i hi => h i (List.mem_cons_of_mem _ hi)]
      rfl
  exact this _ fun i hi => h i (List.mem_range.mp hi)
theorem py_ttab {h : Hh} {k n : Nat} {f : Nat → D} {g : Nat → PyData} (e : ∀ i, i < n → py h k (f i) = some (g i)) : py h (k + 1) (.tup ((List.range n).map f)) = some (.tuple ((List.range n).map g)) := by
  show (match allO (((List.range n).map f).map (py h k)) with | some l => some (PyData.tuple l) | none => none) = _
  rw [List.map_map, allO_tab (f := py h k ∘ f) (g := g) e]
theorem py_ltab {h : Hh} {k n : Nat} {f : Nat → D} {g : Nat → PyData} (e : ∀ i, i < n → py h k (f i) = some (g i)) : py h (k + 1) (.lst ((List.range n).map f)) = some (.list ((List.range n).map g)) := by
  show (match allO (((List.range n).map f).map (py h k)) with | some l => some (PyData.list l) | none => none) = _
  rw [List.map_map, allO_tab (f := py h k ∘ f) (g := g) e]
def rowP (n : Nat) (r : Nat → Int) : PyData := .tuple ((List.range n).map fun j => .int (r j))
def sqP (n : Nat) (c : Nat → Nat → Int) : PyData := .tuple ((List.range n).map fun i => rowP n (c i))
theorem py_row (h : Hh) (k n : Nat) (r : Nat → Int) : py h (k + 2) (rowF n r) = some (rowP n r) := py_ttab fun _ _ => rfl
theorem py_sq (h : Hh) (k n : Nat) (c : Nat → Nat → Int) : py h (k + 3) (sqF n c) = some (sqP n c) := py_ttab fun i _ => py_row h k n (c i)
/-- entries below 2^64 -/
def Bd (n : Nat) (c : Nat → Nat → Int) (B : Nat) : Prop := ∀ i j, i < n → j < n → (c i j).natAbs ≤ B
theorem Gd.row {n : Nat} {r : Nat → Int} (b : ∀ j, j < n → (r j).natAbs < 18446744073709551616) : Gd (n * 72 + 3) 1 (rowP n r) := (Gds.tab fun j hj => Gd.int _ (b j hj)).tup
theorem Gd.sq {n : Nat} {c : Nat → Nat → Int} {B : Nat} (b : Bd n c B) (hB : B < 18446744073709551616) : Gd (n * (n * 72 + 3 + 2) + 3) 2 (sqP n c) := (Gds.tab fun i hi => Gd.row fun j hj => Nat.lt_of_le_of_lt (b i j hi hj) hB).tup
theorem lay_row (n : Nat) (r : Nat → Int) : (rowP n r).canLay0 = true ∧ (rowP n r).depth ≤ 1 := by
  have : ∀ l : List Nat, PyData.canLayAll0 (l.map fun j => PyData.int (r j)) = true ∧ PyData.depthAll (l.map fun j => PyData.int (r j)) ≤ 0 := fun l => by
    induction l with
    | nil => exact ⟨by simp only [List.map_nil, PyData.canLayAll0], by simp only [List.map_nil, PyData.depthAll]; omega⟩
    | cons x l ih => exact ⟨by simp only [List.map_cons, PyData.canLayAll0, PyData.canLay0, ih.1, Bool.and_self], by have := ih.2; simp only [List.map_cons, PyData.depthAll, PyData.depth]; omega⟩
  obtain ⟨h1, h2⟩ := this (List.range n)
  exact ⟨by unfold rowP; simp only [PyData.canLay0]; exact h1, by unfold rowP; simp only [PyData.depth]; omega⟩
theorem shaped_row (n : Nat) (r : Nat → Int) : SeqAt.shaped (rowP n r) = true := by
  obtain ⟨h1, h2⟩ := lay_row n r
  show (_ && decide _) = true
  rw [h1, decide_eq_true (by omega)]; rfl
theorem shaped_sq (n : Nat) (c : Nat → Nat → Int) : SeqAt.shaped (sqP n c) = true := by
  have : ∀ l : List Nat, PyData.canLayAll0 (l.map fun i => rowP n (c i)) = true ∧ PyData.depthAll (l.map fun i => rowP n (c i)) ≤ 1 := fun l => by
    induction l with
    | nil => exact ⟨by simp only [List.map_nil, PyData.canLayAll0], by simp only [List.map_nil, PyData.depthAll]; omega⟩
    | cons x l ih => exact ⟨by simp only [List.map_cons, PyData.canLayAll0, (lay_row n (c x)).1, ih.1, Bool.and_self], by have := ih.2; have := (lay_row n (c x)).2; simp only [List.map_cons, PyData.depthAll]; omega⟩
  obtain ⟨h1, h2⟩ := this (List.range n)
  show ((sqP n c).canLay0 && decide ((sqP n c).depth ≤ 64)) = true
  rw [show (sqP n c).canLay0 = true from by unfold sqP; simp only [PyData.canLay0]; exact h1, decide_eq_true (by unfold sqP; simp only [PyData.depth]; omega)]; rfl
theorem sq_eq (n : Nat) (c : Nat → Nat → Int) (h : Hh) : cmpD .Eq (.d (sqF n c)) (.d (sqF n c)) h = some true := eqD_self (r := .d (sqF n c)) (h := h) (show py h 40 (sqF n c) = _ from py_sq h 37 n c) (shaped_sq n c)
theorem sq_ne (n : Nat) (c : Nat → Nat → Int) (h : Hh) : cmpD .NotEq (.d (sqF n c)) (.d (sqF n c)) h = some false := ne_self (r := .d (sqF n c)) (h := h) (show py h 40 (sqF n c) = _ from py_sq h 37 n c) (shaped_sq n c)
/-! ## even squares -/
structure Ev (n : Nat) (c : Nat → Nat → Int) (S : Int) : Prop where
  row : ∀ i, i < n → sm n (c i) = S
  col : ∀ j, j < n → (sm n fun i => c i j) = S
  fall : (sm n fun i => c i i) = S
  rise : (sm n fun i => c i (n - 1 - i)) = S
theorem sm_congr {n : Nat} {f g : Nat → Int} (h : ∀ i, i < n → f i = g i) : sm n f = sm n g := by
  unfold sm
  rw [List.map_congr_left fun i hi => h i (List.mem_range.mp hi)]
theorem sm_succ (n : Nat) (f : Nat → Int) : sm (n + 1) f = sm n f + f n := by
  unfold sm
  rw [List.range_succ, List.map_append, List.sum_append]; simp
theorem sm_zero (f : Nat → Int) : sm 0 f = 0 := rfl
theorem sm_add (n : Nat) (f g : Nat → Int) : (sm n fun i => f i + g i) = sm n f + sm n g := by
  induction n with
  | zero => rfl
  | succ n ih => rw [sm_succ, sm_succ, sm_succ, ih]; omega
theorem sm_mul (n : Nat) (k : Int) (f : Nat → Int) : (sm n fun i => k * f i) = k * sm n f := by
  induction n with
  | zero => rw [sm_zero, sm_zero, Int.mul_zero]
  | succ n ih => rw [sm_succ, sm_succ, ih, Int.mul_add]
theorem sm_const (n : Nat) (k : Int) : (sm n fun _ => k) = n * k := by
  induction n with
  | zero => simp [sm_zero]
  | succ n ih => rw [sm_succ, ih]; push_cast; rw [Int.add_mul]; omega
theorem sm_front (n : Nat) (f : Nat → Int) : sm (n + 1) f = f 0 + sm n fun i => f (i + 1) := by
  induction n with
  | zero => rw [sm_succ, sm_zero, sm_zero]; omega
  | succ n ih => rw [sm_succ, ih, sm_succ]; omega
theorem sm_rev (n : Nat) (f : Nat → Int) : (sm n fun i => f (n - 1 - i)) = sm n f := by
  induction n with
  | zero => rfl
  | succ n ih =>
    rw [sm_front, sm_succ, ← ih, Int.add_comm]
    rw [show n + 1 - 1 - 0 = n by omega]
    congr 1
    exact sm_congr fun i hi => by rw [show n + 1 - 1 - (i + 1) = n - 1 - i by omega]
theorem sum_perm {l m : List Int} (h : l.Perm m) : l.sum = m.sum := by
  induction h with
  | nil => rfl
  | cons x _ ih => rw [List.sum_cons, List.sum_cons, ih]
  | swap x y l => simp only [List.sum_cons]; omega
  | trans _ _ h1 h2 => exact h1.trans h2
theorem sm_perm {n : Nat} {o : Nat → Nat} (ho : ((List.range n).map o).Perm (List.range n)) (f : Nat → Int) : (sm n fun i => f (o i)) = sm n f := by
  have := sum_perm (ho.map f)
  rw [List.map_map] at this
  exact this
theorem Ev.const (n : Nat) (x : Int) : Ev n (fun _ _ => x) (n * x) := ⟨fun _ _ => sm_const n x, fun _ _ => sm_const n x, sm_const n x, sm_const n x⟩
theorem Ev.addmul {n : Nat} {a b : Nat → Nat → Int} {S T : Int} (x : Ev n a S) (k : Int) (y : Ev n b T) : Ev n (fun i j => a i j + k * b i j) (S + k * T) := by
  refine ⟨fun i hi => ?_, fun j hj => ?_, ?_, ?_⟩
  · rw [sm_add, sm_mul, x.row i hi, y.row i hi]
  · rw [sm_add, sm_mul, x.col j hj, y.col j hj]
  · rw [sm_add, sm_mul, x.fall, y.fall]
  · rw [sm_add, sm_mul, x.rise, y.rise]
theorem Ev.flip {n : Nat} {c : Nat → Nat → Int} {S : Int} (x : Ev n c S) : Ev n (fun i j => c j i) S := by
  refine ⟨x.col, x.row, x.fall, ?_⟩
  have := sm_rev n fun i => c (n - 1 - i) i
  rw [← x.rise, ← this]
  exact sm_congr fun i hi => by rw [show n - 1 - (n - 1 - i) = i by omega]
theorem Ev.rot {n : Nat} {c : Nat → Nat → Int} {S : Int} (x : Ev n c S) : Ev n (rot n c) S := by
  unfold MP.rot
  refine ⟨fun i hi => ?_, fun j hj => x.row _ (by omega), ?_, ?_⟩
  · rw [sm_rev n fun j => c j i]; exact x.col i hi
  · rw [← x.rise, ← sm_rev n fun i => c i (n - 1 - i)]
    exact sm_congr fun i hi => by rw [show n - 1 - (n - 1 - i) = i by omega]
  · rw [← x.fall]
    exact sm_congr fun i hi => by rw [show n - 1 - (n - 1 - i) = i by omega]
theorem Ev.rots {n : Nat} {c : Nat → Nat → Int} {S : Int} (x : Ev n c S) : ∀ k, Ev n (rots n c k) S
  | 0 => x
  | k + 1 => (x.rots k).rot
theorem Ev.turn {n k : Nat} {c : Nat → Nat → Int} {S : Int} (x : Ev n c S) : Ev n (turnF n k c) S := by
  unfold turnF
  split
  · exact x.flip.rots _
  · exact x.rots _
theorem Bd.rots {n B : Nat} {c : Nat → Nat → Int} (x : Bd n c B) : ∀ k, Bd n (rots n c k) B
  | 0 => x
  | k + 1 => fun i j hi hj => x.rots k _ _ (by omega) hi
theorem Bd.turn {n k B : Nat} {c : Nat → Nat → Int} (x : Bd n c B) : Bd n (turnF n k c) B := by
  unfold turnF
  split
  · exact Bd.rots (fun i j hi hj => x j i hj hi) _
  · exact x.rots _
theorem Ev.congr {n : Nat} {c d : Nat → Nat → Int} {S : Int} (x : Ev n c S) (h : ∀ i j, i < n → j < n → c i j = d i j) : Ev n d S :=
  ⟨fun i hi => (sm_congr fun j hj => h i j hi hj) ▸ x.row i hi, fun j hj => (sm_congr fun i hi => h i j hi hj) ▸ x.col j hj, (sm_congr fun i hi => h i i hi hi) ▸ x.fall, (sm_congr fun i hi => h i (n - 1 - i) hi (by omega)) ▸ x.rise⟩
theorem sq_congr {n : Nat} {c d : Nat → Nat → Int} (h : ∀ i j, i < n → j < n → c i j = d i j) : sqF n c = sqF n d := by
  unfold sqF rowF
  congr 1
  exact List.map_congr_left fun i hi => by rw [List.map_congr_left fun j hj => by rw [h i j (List.mem_range.mp hi) (List.mem_range.mp hj)]]
/-- put in a line order -/
theorem Ev.order {n : Nat} {c : Nat → Nat → Int} {S : Int} (x : Ev n c S) {o : Nat → Nat} (ho : ((List.range n).map o).Perm (List.range n)) (hl : ∀ i, i < n → o (n - 1 - i) = n - 1 - o i) : Ev n (fun i j => c (o i) (o j)) S := by
  have lt : ∀ i, i < n → o i < n := fun i hi => List.mem_range.mp (ho.subset (List.mem_map.mpr ⟨i, List.mem_range.mpr hi, rfl⟩))
  refine ⟨fun i hi => ?_, fun j hj => ?_, ?_, ?_⟩
  · rw [sm_perm ho (c (o i))]; exact x.row _ (lt i hi)
  · rw [sm_perm ho fun i => c i (o j)]; exact x.col _ (lt j hj)
  · rw [sm_perm ho fun i => c i i]; exact x.fall
  · rw [← x.rise, ← sm_perm ho fun i => c i (n - 1 - i)]
    exact sm_congr fun i hi => by rw [hl i hi]
theorem dedup_rep {S : Int} : ∀ {l : List Int}, (∀ x ∈ l, x = S) → l ≠ [] → dedup l = [S] := by
  have st : ∀ (l : List Int), (∀ x ∈ l, x = S) → l.foldl PyProof.Rows.step_dedup [S] = [S] := fun l => by
    induction l with
    | nil => exact fun _ => rfl
    | cons x l ih =>
      intro h
      have e := h x List.mem_cons_self
      subst e
      rw [List.foldl_cons, show PyProof.Rows.step_dedup [x] x = [x] from by simp [PyProof.Rows.step_dedup]]
      exact ih fun y hy => h y (List.mem_cons_of_mem _ hy)
  intro l h ne
  cases l with
  | nil => exact absurd rfl ne
  | cons x l =>
    have e := h x List.mem_cons_self
    subst e
    show l.foldl PyProof.Rows.step_dedup (PyProof.Rows.step_dedup [] x) = _
    rw [show PyProof.Rows.step_dedup [] x = [x] from by simp [PyProof.Rows.step_dedup]]
    exact st l fun y hy => h y (List.mem_cons_of_mem _ hy)
theorem Ev.all {n : Nat} {c : Nat → Nat → Int} {S : Int} (x : Ev n c S) : ∀ y ∈ allS n c, y = S := by
  intro y hy
  unfold allS at hy
  rw [List.mem_append, List.mem_append] at hy
  rcases hy with (hy | hy) | hy
  · obtain ⟨i, hi, rfl⟩ := List.mem_map.mp hy
    exact x.row i (List.mem_range.mp hi)
  · obtain ⟨i, hi, rfl⟩ := List.mem_map.mp hy
    exact x.col i (List.mem_range.mp hi)
  · simp only [List.mem_cons, List.not_mem_nil, or_false] at hy
    rcases hy with rfl | rfl
    · exact x.fall
    · exact x.rise
theorem Ev.even {n : Nat} {c : Nat → Nat → Int} {S : Int} (x : Ev n c S) : evenB n c = true := by
  unfold evenB
  rw [dedup_rep x.all (by unfold allS; simp)]
  rfl
end MP
end

section
set_option Elab.async false
set_option linter.all false
set_option maxRecDepth 100000
set_option maxHeartbeats 4000000
namespace MP
open PySem
def nthS : Ss → Nat → S
  | .nil, _ => .pass
  | .cons s _, 0 => s
  | .cons _ r, n + 1 => nthS r n
/-! ## draws -/
def Pt (rest h : Hh) : Prop := ∃ cells m c, h = pot cells m c rest ∧ cells.length ≤ 63
section
variable {cs : List D} {fds : List FD} {k : Nat} {rest h : Hh}
/-- the def _law_of -/
structure IsOf (fds : List FD) (i : Nat) : Prop where
  ex : ∃ fd, fds[i]? = some fd ∧ fd.body = bOf ∧ fd.fz = true ∧ fd.ps.length = 2 ∧ fd.N.length = 4
structure IsOne (fds : List FD) (i f : Nat) : Prop where
  ex : ∃ fd, fds[i]? = some fd ∧ fd.body = bOne f ∧ fd.fz = true ∧ fd.ps.length = 2 ∧ fd.N.length = 2
theorem of_draw {i : Nat} (o : IsOf fds i) (p : Pt rest h) (many : Nat) (h1 : 1 ≤ many) (h2 : many < 18446744073709551616) : ∃ (z : Nat) (h' : Hh), callD (runF cs fds (k + 1)) i [.ref 1, .int many] h = .ok (.d (.int z)) h' ∧ z < many ∧ Pt rest h' := by
  obtain ⟨fd, e, eb, ez, ep, eN⟩ := o.ex
  obtain ⟨cells, m, c, rfl, l⟩ := p
  obtain ⟨z, cells', c', q, z0, z1, l'⟩ := of_call (cs := cs) (k := k) e eb ez ep eN cells m c rest many (by omega) (by omega) l
  refine ⟨z.toNat, _, ?_, by omega, cells', m, c', rfl, l'⟩
  rw [q, show ((z.toNat : Nat) : Int) = z by omega]
theorem one_draw {i f : Nat} (o : IsOne fds i f) (o2 : IsOf fds f) (p : Pt rest h) (x : D) (ds : List D) (hv : ∀ cells m c, viewS (pot cells m c rest) (.d x) = some ds) (h1 : 1 ≤ ds.length) (h2 : ds.length < 18446744073709551616) (hf : ds.all (nr 40) = true) :
    ∃ (z : D) (h' : Hh), callD (runF cs fds (k + 2)) i [.ref 1, x] h = .ok (.d z) h' ∧ z ∈ ds ∧ Pt rest h' := by
  obtain ⟨fd, e, eb, ez, ep, eN⟩ := o.ex
  obtain ⟨fo, e2, eb2, ez2, ep2, eN2⟩ := o2.ex
  obtain ⟨cells, m, c, rfl, l⟩ := p
  obtain ⟨z, cells', c', q, hz, l'⟩ := one_call (cs := cs) (k := k) e eb ez ep eN e2 eb2 ez2 ep2 eN2 cells m c rest x ds l hv h1 h2 (fun d hd n h => fin_nr (r := .d d) (List.all_eq_true.mp hf d hd) n h)
  exact ⟨z, _, q, hz, cells', m, c', rfl, l'⟩
end
theorem viewL_new (h : Hh) (ds : List D) : viewL (h ++ [.lst ds]) (.d (.ref h.length)) = some ds := by
  show (match (h ++ [O.lst ds])[h.length]? with | some (.lst ds) => some ds | _ => none) = _
  rw [List.getElem?_append_right (Nat.le_refl _), Nat.sub_self]; rfl
theorem app_new (h : Hh) (ds : List D) (x : D) (l : lowD h.length x = true) (z : ds.length < 1000000) : methD .append (.d (.ref h.length)) [.d x] (h ++ [.lst ds]) = .ok (.d .non) (h ++ [.lst (ds ++ [x])]) := by
  have e : (h ++ [O.lst ds])[h.length]? = some (.lst ds) := by rw [List.getElem?_append_right (Nat.le_refl _), Nat.sub_self]; rfl
  unfold methD
  simp only [e]
  show (if lowD h.length x ∧ ds.length < sizeLine then Out.ok (R.d .non) ((h ++ [O.lst ds]).set h.length (.lst (ds ++ [x]))) else .no) = _
  rw [if_pos ⟨l, by rw [sizeLine_eq]; omega⟩, List.set_append_right _ _ (Nat.le_refl _), Nat.sub_self]
  rfl
theorem viewL_pot (cells : List Int) (m c : Int) (rest : Hh) (ds : List D) : viewL (pot cells m c (rest ++ [.lst ds])) (.d (.ref (rest.length + 2))) = some ds := viewL_new (pot cells m c rest) ds
/-! ## an even square, drawn -/
def bEvenOf (fo f1 ft : Nat) : Ss := (.cons (.asg (.nm 2) (.al (.lst (.cons (.tup (.cons (.tup (.cons (.c (.int 8)) (.cons (.c (.int 1)) (.cons (.c (.int 6)) .nil)))) (.cons (.tup (.cons (.c (.int 3)) (.cons (.c (.int 5)) (.cons (.c (.int 7)) .nil)))) (.cons (.tup (.cons (.c (.int 4)) (.cons (.c (.int 9)) (.cons (.c (.int 2)) .nil)))) .nil)))) (.cons (.tup (.cons (.tup (.cons (.c (.int 0)) (.cons (.c (.int 1)) (.cons (.c (.int 2)) .nil)))) (.cons (.tup (.cons (.c (.int 2)) (.cons (.c (.int 0)) (.cons (.c (.int 1)) .nil)))) (.cons (.tup (.cons (.c (.int 1)) (.cons (.c (.int 2)) (.cons (.c (.int 0)) .nil)))) .nil)))) .nil))))) (.cons (.ite (.cmp .Eq (.v 1) (.c (.int 4))) (.cons (.asg (.nm 2) (.al (.lst (.cons (.tup (.cons (.tup (.cons (.c (.int 16)) (.cons (.c (.int 3)) (.cons (.c (.int 2)) (.cons (.c (.int 13)) .nil))))) (.cons (.tup (.cons (.c (.int 5)) (.cons (.c (.int 10)) (.cons (.c (.int 11)) (.cons (.c (.int 8)) .nil))))) (.cons (.tup (.cons (.c (.int 9)) (.cons (.c (.int 6)) (.cons (.c (.int 7)) (.cons (.c (.int 12)) .nil))))) (.cons (.tup (.cons (.c (.int 4)) (.cons (.c (.int 15)) (.cons (.c (.int 14)) (.cons (.c (.int 1)) .nil))))) .nil))))) .nil)))) (.cons (.exp (.meth .append (.v 2) (.cons (.tup (.cons (.tup (.cons (.c (.int 1)) (.cons (.c (.int 15)) (.cons (.c (.int 10)) (.cons (.c (.int 8)) .nil))))) (.cons (.tup (.cons (.c (.int 14)) (.cons (.c (.int 4)) (.cons (.c (.int 5)) (.cons (.c (.int 11)) .nil))))) (.cons (.tup (.cons (.c (.int 7)) (.cons (.c (.int 9)) (.cons (.c (.int 16)) (.cons (.c (.int 2)) .nil))))) (.cons (.tup (.cons (.c (.int 12)) (.cons (.c (.int 6)) (.cons (.c (.int 3)) (.cons (.c (.int 13)) .nil))))) .nil))))) .nil))) (.cons (.exp (.meth .append (.v 2) (.cons (.tup (.cons (.tup (.cons (.c (.int 0)) (.cons (.c (.int 1)) (.cons (.c (.int 2)) (.cons (.c (.int 3)) .nil))))) (.cons (.tup (.cons (.c (.int 2)) (.cons (.c (.int 3)) (.cons (.c (.int 0)) (.cons (.c (.int 1)) .nil))))) (.cons (.tup (.cons (.c (.int 3)) (.cons (.c (.int 2)) (.cons (.c (.int 1)) (.cons (.c (.int 0)) .nil))))) (.cons (.tup (.cons (.c (.int 1)) (.cons (.c (.int 0)) (.cons (.c (.int 3)) (.cons (.c (.int 2)) .nil))))) .nil))))) .nil))) .nil))) .nil) (.cons (.ite (.cmp .Eq (.v 1) (.c (.int 5))) (.cons (.asg (.nm 2) (.al (.lst (.cons (.bi .tup (.cons (.lc (.bi .tup (.cons (.lc (.bin .Mod (.bi .int (.cons (.bin .Add (.bin .Mult (.c (.int 2)) (.v 7)) (.v 10)) .nil)) (.c (.int 5))) (.nm 10) (.rg1 (.c (.int 5))) .nil [10]) .nil)) (.nm 7) (.rg1 (.c (.int 5))) .nil [7]) .nil)) .nil)))) (.cons (.exp (.meth .append (.v 2) (.cons (.bi .tup (.cons (.lc (.bi .tup (.cons (.lc (.bin .Mod (.bi .int (.cons (.bin .Add (.bin .Mult (.c (.int 3)) (.v 7)) (.v 10)) .nil)) (.c (.int 5))) (.nm 10) (.rg1 (.c (.int 5))) .nil [10]) .nil)) (.nm 7) (.rg1 (.c (.int 5))) .nil [7]) .nil)) .nil))) .nil)) .nil) (.cons (.ite (.cmp .Lt (.v 1) (.c (.int 3))) (.cons (.ret (.bin .Mult (.tup (.cons (.bin .Mult (.tup (.cons (.bin .Sub (.call fo (.cons (.v 0) (.cons (.c (.int 99)) .nil)) .nil [0, 1]) (.c (.int 49))) .nil)) (.v 1)) .nil)) (.v 1))) .nil) .nil) (.cons (.asg (.nm 3) (.bin .Mult (.tup (.cons (.bin .Mult (.tup (.cons (.bin .Sub (.call fo (.cons (.v 0) (.cons (.c (.int 19)) .nil)) .nil [0, 1]) (.c (.int 9))) .nil)) (.v 1)) .nil)) (.v 1))) (.cons (.for (.nm 4) (.rg1 (.bin .Add (.c (.int 1)) (.call fo (.cons (.v 0) (.cons (.c (.int 3)) .nil)) .nil [0, 1]))) (.cons (.asg (.tp (.cons (.nm 5) (.cons (.nm 6) .nil))) (.tup (.cons (.call ft (.cons (.call f1 (.cons (.v 0) (.cons (.ite (.cmp .Eq (.v 1) (.c (.int 3))) (.sl false true (.v 2) .none (.c (.int 1))) (.v 2)) .nil)) .nil [0, 1]) (.cons (.call fo (.cons (.v 0) (.cons (.c (.int 8)) .nil)) .nil [0, 1]) .nil)) .nil [0, 1]) (.cons (.bin .Sub (.call fo (.cons (.v 0) (.cons (.c (.int 9)) .nil)) .nil [0, 1]) (.c (.int 4))) .nil)))) (.cons (.asg (.nm 3) (.bi .tup (.cons (.lc (.bi .tup (.cons (.lc (.bin .Add (.v 11) (.bin .Mult (.v 6) (.v 12))) (.tp (.cons (.nm 11) (.cons (.nm 12) .nil))) (.zp (.v 8) (.v 9)) .nil [11, 12]) .nil)) (.tp (.cons (.nm 8) (.cons (.nm 9) .nil))) (.zp (.v 3) (.v 5)) .nil [8, 9]) .nil))) .nil))) (.cons (.ret (.v 3)) .nil)))))))
/-- a table as a function -/
def tb (t : List (List Int)) : Nat → Nat → Int := fun i j => (t.getD i []).getD j 0
def t3a : List (List Int) := [[8, 1, 6], [3, 5, 7], [4, 9, 2]]
def t3b : List (List Int) := [[0, 1, 2], [2, 0, 1], [1, 2, 0]]
def t4a : List (List Int) := [[16, 3, 2, 13], [5, 10, 11, 8], [9, 6, 7, 12], [4, 15, 14, 1]]
def t4b : List (List Int) := [[1, 15, 10, 8], [14, 4, 5, 11], [7, 9, 16, 2], [12, 6, 3, 13]]
def t4c : List (List Int) := [[0, 1, 2, 3], [2, 3, 0, 1], [3, 2, 1, 0], [1, 0, 3, 2]]
def t5a : List (List Int) := [[0, 1, 2, 3, 4], [2, 3, 4, 0, 1], [4, 0, 1, 2, 3], [1, 2, 3, 4, 0], [3, 4, 0, 1, 2]]
def t5b : List (List Int) := [[0, 1, 2, 3, 4], [3, 4, 0, 1, 2], [1, 2, 3, 4, 0], [4, 0, 1, 2, 3], [2, 3, 4, 0, 1]]
def BL : Nat → List D
  | 3 => [sqF 3 (tb t3a)]
  | 4 => [sqF 4 (tb t4a), sqF 4 (tb t4b), sqF 4 (tb t4c)]
  | 5 => [sqF 5 (tb t5a), sqF 5 (tb t5b)]
  | _ => []
theorem Ev.of_dec {n : Nat} {c : Nat → Nat → Int} {S : Int} (h : (((List.range n).all fun i => decide (sm n (c i) = S) && decide ((sm n fun j => c j i) = S)) && (decide ((sm n fun i => c i i) = S) && decide ((sm n fun i => c i (n - 1 - i)) = S))) = true) : Ev n c S := by
  rw [Bool.and_eq_true, Bool.and_eq_true] at h
  obtain ⟨h1, h2, h3⟩ := h
  have h1 := List.all_eq_true.mp h1
  refine ⟨fun i hi => ?_, fun i hi => ?_, of_decide_eq_true h2, of_decide_eq_true h3⟩
  · have := h1 i (List.mem_range.mpr hi)
    rw [Bool.and_eq_true] at this
    exact of_decide_eq_true this.1
  · have := h1 i (List.mem_range.mpr hi)
    rw [Bool.and_eq_true] at this
    exact of_decide_eq_true this.2
theorem Bd.of_dec {n B : Nat} {c : Nat → Nat → Int} (h : ((List.range n).all fun i => (List.range n).all fun j => decide ((c i j).natAbs ≤ B)) = true) : Bd n c B := fun i j hi hj =>
  of_decide_eq_true (List.all_eq_true.mp (List.all_eq_true.mp h i (List.mem_range.mpr hi)) j (List.mem_range.mpr hj))
theorem BL_ok {n : Nat} {d : D} (h : d ∈ BL n) : ∃ c S, d = sqF n c ∧ Ev n c S ∧ Bd n c 16 := by
  unfold BL at h
  split at h
  · simp only [List.mem_cons, List.not_mem_nil, or_false] at h
    subst h
    exact ⟨_, 15, rfl, .of_dec (by decide +kernel), .of_dec (by decide +kernel)⟩
  · simp only [List.mem_cons, List.not_mem_nil, or_false] at h
    rcases h with rfl | rfl | rfl
    · exact ⟨_, 34, rfl, .of_dec (by decide +kernel), .of_dec (by decide +kernel)⟩
    · exact ⟨_, 34, rfl, .of_dec (by decide +kernel), .of_dec (by decide +kernel)⟩
    · exact ⟨_, 6, rfl, .of_dec (by decide +kernel), .of_dec (by decide +kernel)⟩
  · simp only [List.mem_cons, List.not_mem_nil, or_false] at h
    rcases h with rfl | rfl
    · exact ⟨_, 10, rfl, .of_dec (by decide +kernel), .of_dec (by decide +kernel)⟩
    · exact ⟨_, 10, rfl, .of_dec (by decide +kernel), .of_dec (by decide +kernel)⟩
  · cases h
theorem BL_nr (n : Nat) : (BL n).all (nr 40) = true := List.all_eq_true.mpr fun d hd => by
  obtain ⟨c, S, rfl, _⟩ := BL_ok hd
  exact nr_sq 37 n c
theorem rep_tab (n : Nat) (f : Nat → D) (x : D) (h : ∀ i, f i = x) : List.replicate n x = (List.range n).map f := by
  rw [List.map_congr_left (g := fun _ => x) fun i _ => h i]
  induction n with
  | zero => rfl
  | succ n ih => rw [List.range_succ, List.map_append, ← ih, List.replicate_succ']; rfl
theorem mul_t1 (x : D) (n : Nat) (h : Hh) (h1 : 1 ≤ n) (h2 : n ≤ 1000) : mulD (.d (.tup [x])) (.d (.int n)) h = some (.d (.tup (List.replicate n x))) := by
  show (if (n : Int) = 1 then some (R.d (D.tup [x])) else if 1 ≤ ([x] : List D).length ∧ ([x] : List D).length ≤ 1000 ∧ 2 ≤ (n : Int) ∧ (n : Int) ≤ 1000 then some (R.d (D.tup (List.replicate ((n : Int)).toNat [x]).flatten)) else none) = _
  have fl : ∀ n : Nat, (List.replicate n [x]).flatten = List.replicate n x := fun n => by
    induction n with
    | zero => rfl
    | succ n ih => rw [List.replicate_succ, List.replicate_succ, List.flatten_cons, ih]; rfl
  by_cases z : n = 1
  · subst z; rfl
  · rw [if_neg (by omega), if_pos ⟨by simp, by simp, by omega, by omega⟩, show ((n : Int)).toNat = n by omega, fl]
theorem const_sq (x : Int) (n : Nat) (h : Hh) (h1 : 1 ≤ n) (h2 : n ≤ 1000) : ∃ r, mulD (.d (.tup [.int x])) (.d (.int n)) h = some (.d r) ∧ mulD (.d (.tup [r])) (.d (.int n)) h = some (.d (sqF n fun _ _ => x)) := by
  refine ⟨_, mul_t1 _ n h h1 h2, ?_⟩
  rw [mul_t1 _ n h h1 h2]
  unfold sqF rowF
  rw [rep_tab n (fun _ => .int x) (.int x) fun _ => rfl, ← rep_tab n (fun _ => D.tup ((List.range n).map fun _ => .int x)) _ fun _ => rfl]
end MP
end

section
set_option Elab.async false
set_option linter.all false
set_option maxRecDepth 100000
set_option maxHeartbeats 4000000
namespace MP
open PySem
structure IsTurned (fds : List FD) (i : Nat) : Prop where
  ex : ∃ fd, fds[i]? = some fd ∧ fd.body = bTurned ∧ fd.fz = true ∧ fd.ps.length = 2 ∧ fd.N.length = 7
theorem turn_call {cs : List D} {fds : List FD} {k i : Nat} (o : IsTurned fds i) (n : Nat) (hn : n < 1000) (c : Nat → Nat → Int) (t : Nat) (h : Hh) : callD (runF cs fds (k + 1)) i [sqF n c, .int t] h = .ok (.d (sqF n (turnF n t c))) h := by
  obtain ⟨fd, e, eb, ez, ep, eN⟩ := o.ex
  exact turned_call e eb ez ep eN n hn c t h
theorem Pt.len {rest h : Hh} (p : Pt rest h) : h.length = rest.length + 2 := by
  obtain ⟨cells, m, c, rfl, _⟩ := p
  simp [pot]
theorem Pt.new {rest h : Hh} (p : Pt rest h) (o : O) : Pt (rest ++ [o]) (h ++ [o]) := by
  obtain ⟨cells, m, c, rfl, l⟩ := p
  exact ⟨cells, m, c, rfl, l⟩
theorem Pt.back {rest e h : Hh} (p : Pt (rest ++ e) h) : Pt rest (h.take (rest.length + 2)) := by
  obtain ⟨cells, m, c, rfl, l⟩ := p
  exact ⟨cells, m, c, by simp [pot], l⟩
def en13 (n : Nat) (x2 x3 x4 x5 x6 x7 x8 x9 x10 x11 x12 : Option D) : En := [some (.ref 1), some (.int n), x2, x3, x4, x5, x6, x7, x8, x9, x10, x11, x12]
section
variable {cs : List D} {fds : List FD} {k fo f1 ft : Nat} {rest h : Hh}
/-- the base lists -/
theorem ev_base3 (cl : Cl) (h : Hh) : dSs cl cs (takeS (bEvenOf fo f1 ft) 3) (en13 3 none none none none none none none none none none none) h = .ok (.nx (en13 3 (some (.ref h.length)) none none none none none none none none none none)) (h ++ [.lst [sqF 3 (tb t3a), sqF 3 (tb t3b)]]) := by
  kernel_rfl
def thenS : S → Ss
  | .ite _ a _ => a
  | _ => .nil
def bE4 (fo f1 ft : Nat) : Ss := thenS (nthS (bEvenOf fo f1 ft) 1)
def bE5 (fo f1 ft : Nat) : Ss := thenS (nthS (bEvenOf fo f1 ft) 2)
def litA (s : S) : E := match s with
  | .exp (.meth _ _ (.cons e _)) => e
  | _ => .none
theorem app_s (cl : Cl) (s : S) (e : E) (hs : s = .exp (.meth .append (.v 2) (.cons e .nil))) (en : En) (h : Hh) (ds : List D) (x : D) (h2 : en[2]? = some (some (.ref h.length))) (he : ∀ en h, dE cl cs e en h = .ok (.d x) h) (l : nr 40 x = true) (z : ds.length < 1000000) :
    dS cl cs s en (h ++ [.lst ds]) = .ok (.nx en) (h ++ [.lst (ds ++ [x])]) := by
  subst hs
  show kExp (kMeth .append (kV 2) (kCons (dE cl cs e) kNil)) en _ = _
  exact exp_ok (meth_ok (v_ok h2) (viewL_new h ds) (cons_ok (he _ _) nil_ok) (app_new h ds x (nr_low 40 x l _) z))
theorem ev_base4 (cl : Cl) (h : Hh) : dSs cl cs (takeS (bEvenOf fo f1 ft) 3) (en13 4 none none none none none none none none none none none) h = .ok (.nx (en13 4 (some (.ref (h.length + 1))) none none none none none none none none none none)) (h ++ [.lst [sqF 3 (tb t3a), sqF 3 (tb t3b)]] ++ [.lst (BL 4)]) := by
  have s0 : dS cl cs (nthS (bEvenOf fo f1 ft) 0) (en13 4 none none none none none none none none none none none) h = .ok (.nx (en13 4 (some (.ref h.length)) none none none none none none none none none none)) (h ++ [.lst [sqF 3 (tb t3a), sqF 3 (tb t3b)]]) := by kernel_rfl
  have hl : (h ++ [O.lst [sqF 3 (tb t3a), sqF 3 (tb t3b)]]).length = h.length + 1 := by simp
  rw [← hl]
  generalize h ++ [O.lst [sqF 3 (tb t3a), sqF 3 (tb t3b)]] = h1 at s0
  have a0 : dS cl cs (nthS (bE4 fo f1 ft) 0) (en13 4 (some (.ref h.length)) none none none none none none none none none none) h1 = .ok (.nx (en13 4 (some (.ref h1.length)) none none none none none none none none none none)) (h1 ++ [.lst [sqF 4 (tb t4a)]]) := by kernel_rfl
  have a1 := app_s (cs := cs) cl (nthS (bE4 fo f1 ft) 1) (litA (nthS (bE4 fo f1 ft) 1)) rfl (en13 4 (some (.ref h1.length)) none none none none none none none none none none) h1 [sqF 4 (tb t4a)] (sqF 4 (tb t4b)) rfl (fun en h => by kernel_rfl) (nr_sq 37 _ _) (by decide)
  have a2 := app_s (cs := cs) cl (nthS (bE4 fo f1 ft) 2) (litA (nthS (bE4 fo f1 ft) 2)) rfl (en13 4 (some (.ref h1.length)) none none none none none none none none none none) h1 [sqF 4 (tb t4a), sqF 4 (tb t4b)] (sqF 4 (tb t4c)) rfl (fun en h => by kernel_rfl) (nr_sq 37 _ _) (by decide)
  have s1 : dS cl cs (nthS (bEvenOf fo f1 ft) 1) (en13 4 (some (.ref h.length)) none none none none none none none none none none) h1 = .ok (.nx (en13 4 (some (.ref h1.length)) none none none none none none none none none none)) (h1 ++ [.lst (BL 4)]) := by
    have e : nthS (bEvenOf fo f1 ft) 1 = .ite (.cmp .Eq (.v 1) (.c (.int 4))) (.cons (nthS (bE4 fo f1 ft) 0) (.cons (nthS (bE4 fo f1 ft) 1) (.cons (nthS (bE4 fo f1 ft) 2) .nil))) .nil := rfl
    rw [e]
    show kIteS _ (kSeq _ (kSeq _ (kSeq _ kPass))) _ _ _ = _
    refine (ite_t (h' := h1) (r := .d (.bl true)) rfl rfl).trans ?_
    rw [seq_nx a0, seq_nx a1]
    exact (seq_nx a2).trans pass_ok
  have s2 : dS cl cs (nthS (bEvenOf fo f1 ft) 2) (en13 4 (some (.ref h1.length)) none none none none none none none none none none) (h1 ++ [.lst (BL 4)]) = .ok (.nx (en13 4 (some (.ref h1.length)) none none none none none none none none none none)) (h1 ++ [.lst (BL 4)]) := by kernel_rfl
  show kSeq (dS cl cs (nthS (bEvenOf fo f1 ft) 0)) (kSeq (dS cl cs (nthS (bEvenOf fo f1 ft) 1)) (kSeq (dS cl cs (nthS (bEvenOf fo f1 ft) 2)) kPass)) _ _ = _
  rw [seq_nx s0, seq_nx s1, seq_nx s2]
  exact pass_ok
theorem ev_base5 (cl : Cl) (h : Hh) : dSs cl cs (takeS (bEvenOf fo f1 ft) 3) (en13 5 none none none none none none none none none none none) h = .ok (.nx (en13 5 (some (.ref (h.length + 1))) none none none none none none none none none none)) (h ++ [.lst [sqF 3 (tb t3a), sqF 3 (tb t3b)]] ++ [.lst (BL 5)]) := by
  have s0 : dS cl cs (nthS (bEvenOf fo f1 ft) 0) (en13 5 none none none none none none none none none none none) h = .ok (.nx (en13 5 (some (.ref h.length)) none none none none none none none none none none)) (h ++ [.lst [sqF 3 (tb t3a), sqF 3 (tb t3b)]]) := by kernel_rfl
  have hl : (h ++ [O.lst [sqF 3 (tb t3a), sqF 3 (tb t3b)]]).length = h.length + 1 := by simp
  rw [← hl]
  generalize h ++ [O.lst [sqF 3 (tb t3a), sqF 3 (tb t3b)]] = h1 at s0
  have a0 : dS cl cs (nthS (bE5 fo f1 ft) 0) (en13 5 (some (.ref h.length)) none none none none none none none none none none) h1 = .ok (.nx (en13 5 (some (.ref h1.length)) none none none none none none none none none none)) (h1 ++ [.lst [sqF 5 (tb t5a)]]) := by kernel_rfl
  have l1 : ∀ h, dE cl cs (litA (nthS (bE5 fo f1 ft) 1)) (en13 5 (some (.ref h1.length)) none none none none none none none none none none) h = .ok (.d (sqF 5 (tb t5b))) h := fun h => by kernel_rfl
  have a1 : dS cl cs (nthS (bE5 fo f1 ft) 1) (en13 5 (some (.ref h1.length)) none none none none none none none none none none) (h1 ++ [.lst [sqF 5 (tb t5a)]]) = .ok (.nx (en13 5 (some (.ref h1.length)) none none none none none none none none none none)) (h1 ++ [.lst (BL 5)]) := by
    have e : nthS (bE5 fo f1 ft) 1 = .exp (.meth .append (.v 2) (.cons (litA (nthS (bE5 fo f1 ft) 1)) .nil)) := rfl
    rw [e]
    show kExp (kMeth .append (kV 2) (kCons (dE cl cs _) kNil)) _ _ = _
    exact exp_ok (meth_ok (v_ok rfl) (viewL_new h1 _) (cons_ok (l1 _) nil_ok) (app_new h1 [sqF 5 (tb t5a)] (sqF 5 (tb t5b)) (nr_low 40 _ (nr_sq 37 _ _) _) (by decide)))
  have s1 : dS cl cs (nthS (bEvenOf fo f1 ft) 1) (en13 5 (some (.ref h.length)) none none none none none none none none none none) h1 = .ok (.nx (en13 5 (some (.ref h.length)) none none none none none none none none none none)) h1 := by kernel_rfl
  have s2 : dS cl cs (nthS (bEvenOf fo f1 ft) 2) (en13 5 (some (.ref h.length)) none none none none none none none none none none) h1 = .ok (.nx (en13 5 (some (.ref h1.length)) none none none none none none none none none none)) (h1 ++ [.lst (BL 5)]) := by
    have e : nthS (bEvenOf fo f1 ft) 2 = .ite (.cmp .Eq (.v 1) (.c (.int 5))) (.cons (nthS (bE5 fo f1 ft) 0) (.cons (nthS (bE5 fo f1 ft) 1) .nil)) .nil := rfl
    rw [e]
    show kIteS _ (kSeq _ (kSeq _ kPass)) _ _ _ = _
    refine (ite_t (h' := h1) (r := .d (.bl true)) rfl rfl).trans ?_
    rw [seq_nx a0, seq_nx a1]
    exact pass_ok
  show kSeq (dS cl cs (nthS (bEvenOf fo f1 ft) 0)) (kSeq (dS cl cs (nthS (bEvenOf fo f1 ft) 1)) (kSeq (dS cl cs (nthS (bEvenOf fo f1 ft) 2)) kPass)) _ _ = _
  rw [seq_nx s0, seq_nx s1, seq_nx s2]
  exact pass_ok
/-- the draws behind the base lists -/
theorem ev_rest (o : IsOf fds fo) (o1 : IsOne fds f1 fo) (ot : IsTurned fds ft) (n : Nat) (n3 : 3 ≤ n) (n5 : n ≤ 5) (q : Nat) (x2 x3 x4 x5 x6 x7 x8 x9 x10 x11 x12 : Option D) (p : Pt rest h) (x : D) (h2 : x2 = some (.ref q))
    (hb : ∀ (x3 x4 x5 x6 x7 x8 x9 x10 x11 x12 : Option D) (h : Hh), Pt rest h → ∃ r, kIte (kCmp .Eq (kV 1) (kC (.int 3))) (kSl false true (kV 2) (kC .non) (kC (.int 1))) (kV 2) (en13 n x2 x3 x4 x5 x6 x7 x8 x9 x10 x11 x12) h = .ok r h ∧ r.toD = x)
    (hv : ∀ cells m c, viewS (pot cells m c rest) (.d x) = some (BL n)) :
    ∃ (c : Nat → Nat → Int) (S : Int) (h' : Hh), dSs (runF cs fds (k + 2)) cs (dropS (bEvenOf fo f1 ft) 3) (en13 n x2 x3 x4 x5 x6 x7 x8 x9 x10 x11 x12) h = .ok (.rt (.d (sqF n c))) h' ∧ Ev n c S ∧ Bd n c 201 ∧ Pt rest h' := by
  have l1 : 1 ≤ (BL n).length ∧ (BL n).length < 18446744073709551616 := by
    have : n = 3 ∨ n = 4 ∨ n = 5 := by omega
    rcases this with rfl | rfl | rfl <;> exact ⟨by decide, by decide⟩
  show ∃ (c : Nat → Nat → Int) (S : Int) (h' : Hh), kSeq (dS (runF cs fds (k + 2)) cs (nthS (bEvenOf fo f1 ft) 3)) (kSeq (dS (runF cs fds (k + 2)) cs (nthS (bEvenOf fo f1 ft) 4)) (kSeq (dS (runF cs fds (k + 2)) cs (nthS (bEvenOf fo f1 ft) 5)) (kSeq (dS (runF cs fds (k + 2)) cs (nthS (bEvenOf fo f1 ft) 6)) kPass))) _ _ = _ ∧ _
  -- if n < 3
  have s3 : dS (runF cs fds (k + 2)) cs (nthS (bEvenOf fo f1 ft) 3) (en13 n x2 x3 x4 x5 x6 x7 x8 x9 x10 x11 x12) h = .ok (.nx (en13 n x2 x3 x4 x5 x6 x7 x8 x9 x10 x11 x12)) h := by
    show kIteS (kCmp .Lt (kV 1) (kC (.int 3))) _ kPass _ _ = _
    have lt : cmpD .Lt (.d (.int n)) (.d (.int 3)) h = some (decide ((n : Int) < 3)) := rfl
    rw [decide_eq_false (by omega)] at lt
    exact (ite_f (h' := h) (r := .d (.bl false)) (cmp_ok (v_ok rfl) c_ok lt) rfl).trans pass_ok
  rw [seq_nx s3]
  -- the first square
  obtain ⟨z, h1, e1, z1, p1⟩ := of_draw (cs := cs) (k := k + 1) o p 19 (by decide) (by decide)
  obtain ⟨r0, m1, m2⟩ := const_sq ((z : Int) - 9) n h1 (by omega) (by omega)
  have s4 : dS (runF cs fds (k + 2)) cs (nthS (bEvenOf fo f1 ft) 4) (en13 n x2 x3 x4 x5 x6 x7 x8 x9 x10 x11 x12) h = .ok (.nx (en13 n x2 (some (sqF n fun _ _ => (z : Int) - 9)) x4 x5 x6 x7 x8 x9 x10 x11 x12)) h1 := by
    show kAsg (kNm 3) (kBin .Mult (kTup (kCons (kBin .Mult (kTup (kCons (kBin .Sub (kCall (runF cs fds (k + 2)) fo (kCons (kV 0) (kCons (kC (.int 19)) kNil)) kNil [0, 1]) (kC (.int 9))) kNil)) (kV 1)) kNil)) (kV 1)) _ _ = _
    refine asg_ok (bin_ok (x := .d (.tup [r0])) (tup_ok (rs := [.d r0]) (cons_ok (bin_ok (x := .d (.tup [.int ((z : Int) - 9)])) (tup_ok (rs := [.d (.int ((z : Int) - 9))]) (cons_ok (bin_ok (x := .d (.int z)) (y := .d (.int 9)) (call_ok (cons_ok (v_ok rfl) (cons_ok c_ok nil_ok)) nil_ok rfl e1) c_ok (sub_i _ _ h1)) nil_ok) ln1) (v_ok rfl) m1) nil_ok) ln1) (v_ok rfl) m2) ?_
    exact nm_ok (lt_b rfl)
  rw [seq_nx s4]
  -- the loop
  obtain ⟨t, h2', e2, t1, p2⟩ := of_draw (cs := cs) (k := k + 1) o p1 3 (by decide) (by decide)
  have it : kRg1 (kBin .Add (kC (.int 1)) (kCall (runF cs fds (k + 2)) fo (kCons (kV 0) (kCons (kC (.int 3)) kNil)) kNil [0, 1])) (en13 n x2 (some (sqF n fun _ _ => (z : Int) - 9)) x4 x5 x6 x7 x8 x9 x10 x11 x12) h1 = .ok (.st (nums (1 + t))) h2' := by
    refine rg_ok (n := 1 + t) (bin_ok (x := .d (.int 1)) (y := .d (.int t)) c_ok (call_ok (cons_ok (v_ok rfl) (cons_ok c_ok nil_ok)) nil_ok rfl e2) ?_) (by omega)
    rw [show binD .Add (.d (.int 1)) (.d (.int t)) h2' = _ from add_i 1 t h2']
    rw [show ((1 + t : Nat) : Int) = 1 + (t : Int) by omega]
  obtain ⟨en', h3, e3, c, S, x4', x5', x6', x8', x9', x11', x12', rfl, ev, bd, p3⟩ := for_ys (step := fun d en h => (kNm 4 en (.d d) h).bind fun en h => dSs (runF cs fds (k + 2)) cs (match nthS (bEvenOf fo f1 ft) 5 with | .for _ _ b => b | _ => .nil) en h)
    (fun j en h' => ∃ (c : Nat → Nat → Int) (S : Int) (x4 x5 x6 x8 x9 x11 x12 : Option D), en = en13 n x2 (some (sqF n c)) x4 x5 x6 x7 x8 x9 x10 x11 x12 ∧ Ev n c S ∧ Bd n c (9 + 64 * j) ∧ Pt rest h') (nums (1 + t)) (.st (nums (1 + t))) 0 FUEL (en13 n x2 (some (sqF n fun _ _ => (z : Int) - 9)) x4 x5 x6 x7 x8 x9 x10 x11 x12) h2' (Ys_st _) (by
      rintro j d hd en h' ⟨c, S, x4, x5, x6, x8, x9, x11, x12, rfl, ev, bd, p⟩
      rw [Nat.zero_add] at bd ⊢
      obtain ⟨r, e1, e2⟩ := hb (some (sqF n c)) (some d) x5 x6 x7 x8 x9 x10 x11 x12 h' p
      obtain ⟨b, h1, e3, hz, p1⟩ := one_draw (cs := cs) (k := k) o1 o p x (BL n) hv l1.1 l1.2 (BL_nr n)
      obtain ⟨b', T, rfl, evb, bdb⟩ := BL_ok hz
      obtain ⟨t8, h2, e4, t8l, p2⟩ := of_draw (cs := cs) (k := k + 1) o p1 8 (by decide) (by decide)
      have e5 := turn_call (cs := cs) (k := k + 1) ot n (by omega) b' t8 h2
      obtain ⟨f9, h3, e6, f9l, p3⟩ := of_draw (cs := cs) (k := k + 1) o p2 9 (by decide) (by decide)
      refine ⟨en13 n x2 (some (sqF n fun i j => c i j + ((f9 : Int) - 4) * turnF n t8 b' i j)) (some d) (some (sqF n (turnF n t8 b'))) (some (.int ((f9 : Int) - 4))) x7 x8 x9 x10 x11 x12, h3, ?_, _, S + ((f9 : Int) - 4) * T, some d, _, _, x8, x9, x11, x12, rfl, ev.addmul _ evb.turn, ?_, p3⟩
      · rw [nm_ok (lt_b rfl), ok_bind]
        show kSeq (kAsg (kTp (kTcons (kNm 5) (kTcons (kNm 6) kTnil))) (kTup (kCons (kCall (runF cs fds (k + 2)) ft (kCons (kCall (runF cs fds (k + 2)) f1 (kCons (kV 0) (kCons (kIte (kCmp .Eq (kV 1) (kC (.int 3))) (kSl false true (kV 2) (kC .non) (kC (.int 1))) (kV 2)) kNil)) kNil [0, 1]) (kCons (kCall (runF cs fds (k + 2)) fo (kCons (kV 0) (kCons (kC (.int 8)) kNil)) kNil [0, 1]) kNil)) kNil [0, 1]) (kCons (kBin .Sub (kCall (runF cs fds (k + 2)) fo (kCons (kV 0) (kCons (kC (.int 9)) kNil)) kNil [0, 1]) (kC (.int 4))) kNil))))
          (kSeq (kAsg (kNm 3) (kBi .tup (kCons (kLc (kBi .tup (kCons (kLc (kBin .Add (kV 11) (kBin .Mult (kV 6) (kV 12))) (kTp (kTcons (kNm 11) (kTcons (kNm 12) kTnil))) (kZp (kV 8) (kV 9)) kYes [11, 12]) kNil)) (kTp (kTcons (kNm 8) (kTcons (kNm 9) kTnil))) (kZp (kV 3) (kV 5)) kYes [8, 9]) kNil))) kPass) _ _ = _
        have a1 : kAsg (kTp (kTcons (kNm 5) (kTcons (kNm 6) kTnil))) (kTup (kCons (kCall (runF cs fds (k + 2)) ft (kCons (kCall (runF cs fds (k + 2)) f1 (kCons (kV 0) (kCons (kIte (kCmp .Eq (kV 1) (kC (.int 3))) (kSl false true (kV 2) (kC .non) (kC (.int 1))) (kV 2)) kNil)) kNil [0, 1]) (kCons (kCall (runF cs fds (k + 2)) fo (kCons (kV 0) (kCons (kC (.int 8)) kNil)) kNil [0, 1]) kNil)) kNil [0, 1]) (kCons (kBin .Sub (kCall (runF cs fds (k + 2)) fo (kCons (kV 0) (kCons (kC (.int 9)) kNil)) kNil [0, 1]) (kC (.int 4))) kNil)))
            (en13 n x2 (some (sqF n c)) (some d) x5 x6 x7 x8 x9 x10 x11 x12) h' = .ok (.nx (en13 n x2 (some (sqF n c)) (some d) (some (sqF n (turnF n t8 b'))) (some (.int ((f9 : Int) - 4))) x7 x8 x9 x10 x11 x12)) h3 := by
          refine asg_ok (tup_ok (rs := [.d (sqF n (turnF n t8 b')), .d (.int ((f9 : Int) - 4))]) (cons_ok (call_ok (xs := [.d (sqF n b'), .d (.int t8)]) (cons_ok (call_ok (xs := [.d (.ref 1), r]) (zs := [.d (.ref 1), r]) (cons_ok (v_ok rfl) (cons_ok e1 nil_ok)) nil_ok rfl (by rw [List.map_cons, List.map_cons, e2]; exact e3)) (cons_ok (call_ok (cons_ok (v_ok rfl) (cons_ok c_ok nil_ok)) nil_ok rfl e4) nil_ok)) nil_ok rfl e5) (cons_ok (bin_ok (x := .d (.int f9)) (y := .d (.int 4)) (call_ok (cons_ok (v_ok rfl) (cons_ok c_ok nil_ok)) nil_ok rfl e6) c_ok (sub_i _ _ h3)) nil_ok)) ln2) ?_
          exact tp_ok (ds := [sqF n (turnF n t8 b'), .int ((f9 : Int) - 4)]) rfl (tcons_ok (nm_ok (lt_b rfl)) (tcons_ok (nm_ok (lt_b rfl)) tnil_ok))
        refine (seq_nx a1).trans ?_
        refine seq_asg (sq_comp (fun i j => c i j + ((f9 : Int) - 4) * turnF n t8 b' i j) (by omega) (zp_ok (v_ok rfl) (v_ok rfl) (cur_sq n c h3) (cur_sq n _ h3)) (Ys_zt n _ _) (fun i hi => tp_ok rfl (tcons_ok (nm_ok (lt_b rfl)) (tcons_ok (nm_ok (lt_b rfl)) tnil_ok)))
          (fun i hi => zp_ok (v_ok rfl) (v_ok rfl) (cur_row n (c i) h3) (cur_row n (turnF n t8 b' i) h3)) (fun i hi => Ys_zt n _ _) (fun i j hi hj => tp_ok rfl (tcons_ok (nm_ok (lt_b rfl)) (tcons_ok (nm_ok (lt_b rfl)) tnil_ok))) fun i j hi hj => ?_) (lt_b rfl) pass_ok
        exact bin_ok (x := .d (.int (c i j))) (y := .d (.int (((f9 : Int) - 4) * turnF n t8 b' i j))) (v_ok rfl) (bin_ok (x := .d (.int ((f9 : Int) - 4))) (y := .d (.int (turnF n t8 b' i j))) (v_ok rfl) (v_ok rfl) (mul_lo _ _ h3 (by omega))) (add_i _ _ h3)
      · intro i l hi hl
        have b1 := bd i l hi hl
        have b2 := bdb.turn (k := t8) i l hi hl
        have b3 : (((f9 : Int) - 4) * turnF n t8 b' i l).natAbs ≤ 4 * 16 := by
          rw [Int.natAbs_mul]
          exact Nat.mul_le_mul (by omega) b2
        have b4 := Int.natAbs_add_le (c i l) (((f9 : Int) - 4) * turnF n t8 b' i l)
        show (c i l + ((f9 : Int) - 4) * turnF n t8 b' i l).natAbs ≤ 9 + 64 * (j + 1)
        generalize ((f9 : Int) - 4) * turnF n t8 b' i l = y at b3 b4 ⊢
        omega) (by simp [FUEL]; omega) ⟨_, _, x4, x5, x6, x8, x9, x11, x12, rfl, .const n _, fun i j hi hj => by show ((z : Int) - 9).natAbs ≤ _; omega, p2⟩
  have s5 : dS (runF cs fds (k + 2)) cs (nthS (bEvenOf fo f1 ft) 5) (en13 n x2 (some (sqF n fun _ _ => (z : Int) - 9)) x4 x5 x6 x7 x8 x9 x10 x11 x12) h1 = .ok (.nx (en13 n x2 (some (sqF n c)) x4' x5' x6' x7 x8' x9' x10 x11' x12')) h3 := by
    show kFor (kNm 4) (kRg1 _) (dSs (runF cs fds (k + 2)) cs _) _ _ = _
    exact for_ok it e3
  rw [seq_nx s5]
  have hlen : 0 + (nums (1 + t)).length = 1 + t := by simp
  refine ⟨c, S, h3, seq_rt (ret_ok (v_ok rfl)), ev, fun i j hi hj => ?_, p3⟩
  have := bd i j hi hj
  rw [hlen] at this
  omega
structure IsEvenOf (fds : List FD) (i fo f1 ft : Nat) : Prop where
  ex : ∃ fd, fds[i]? = some fd ∧ fd.body = bEvenOf fo f1 ft ∧ fd.fz = true ∧ fd.ps.length = 2 ∧ fd.N.length = 13
/-- a def with the pot, its end -/
theorem fn_pot {i : Nat} {fd : FD} {ds : List D} {r : R} {e : Hh} {h' : Hh} (q : fds[i]? = some fd) (l : ds.length + 1 = fd.ps.length ∧ fd.ps.length ≤ fd.N.length) (z : fd.fz = true) (p : Pt rest h) (nn : nrR r = true)
    (b : dSs (runF cs fds k) cs fd.body ((D.ref 1 :: ds).map some ++ List.replicate (fd.N.length - (D.ref 1 :: ds).length) none) h = .ok (.rt r) h') (p' : Pt (rest ++ e) h') :
    ∃ h2, callD (runF cs fds (k + 1)) i (.ref 1 :: ds) h = .ok r h2 ∧ Pt rest h2 := by
  refine ⟨h'.take (rest.length + 2), ?_, p'.back⟩
  rw [callD_ref, run_rt q (by rw [List.length_cons]; exact l) b, z, fin_nr nn, p.len]
theorem evenOf_call {i : Nat} (oe : IsEvenOf fds i fo f1 ft) (o : IsOf fds fo) (o1 : IsOne fds f1 fo) (ot : IsTurned fds ft) (n : Nat) (n1 : 1 ≤ n) (n5 : n ≤ 5) (p : Pt rest h) :
    ∃ (c : Nat → Nat → Int) (S : Int) (h' : Hh), callD (runF cs fds (k + 3)) i [.ref 1, .int n] h = .ok (.d (sqF n c)) h' ∧ Ev n c S ∧ Bd n c 201 ∧ Pt rest h' := by
  obtain ⟨fd, q, qb, qz, qp, qN⟩ := oe.ex
  have fin : ∀ (c : Nat → Nat → Int) (S : Int) (e h' : Hh), dSs (runF cs fds (k + 2)) cs (bEvenOf fo f1 ft) (en13 n none none none none none none none none none none none) h = .ok (.rt (.d (sqF n c))) h' → Ev n c S → Bd n c 201 → Pt (rest ++ e) h' →
      ∃ (c : Nat → Nat → Int) (S : Int) (h' : Hh), callD (runF cs fds (k + 3)) i [.ref 1, .int n] h = .ok (.d (sqF n c)) h' ∧ Ev n c S ∧ Bd n c 201 ∧ Pt rest h' := fun c S e h' b ev bd p' => by
    obtain ⟨h2, e2, p2⟩ := fn_pot (cs := cs) (k := k + 2) (ds := [.int n]) (e := e) q (by rw [qp, qN]; exact ⟨rfl, by decide⟩) qz p (show nrR (.d (sqF n c)) = true from nr_sq 37 n c) (by rw [qb, qN]; exact b) p'
    exact ⟨c, S, h2, e2, ev, bd, p2⟩
  have small : ∀ (h1 : Hh) (x2 : Option D), n < 3 → Pt (rest ++ [.lst [sqF 3 (tb t3a), sqF 3 (tb t3b)]]) h1 → dSs (runF cs fds (k + 2)) cs (takeS (bEvenOf fo f1 ft) 3) (en13 n none none none none none none none none none none none) h = .ok (.nx (en13 n x2 none none none none none none none none none none)) h1 →
      ∃ (c : Nat → Nat → Int) (S : Int) (h' : Hh), callD (runF cs fds (k + 3)) i [.ref 1, .int n] h = .ok (.d (sqF n c)) h' ∧ Ev n c S ∧ Bd n c 201 ∧ Pt rest h' := fun h1 x2 hn p1 e1 => by
    obtain ⟨z, h2, e2, z1, p2⟩ := of_draw (cs := cs) (k := k + 1) o p1 99 (by decide) (by decide)
    obtain ⟨r0, m1, m2⟩ := const_sq ((z : Int) - 49) n h2 n1 (by omega)
    refine fin (fun _ _ => (z : Int) - 49) _ _ h2 ((take_drop _ cs 3 (bEvenOf fo f1 ft) _ _ _ _ e1).trans ?_) (.const n _) (fun i j hi hj => by show ((z : Int) - 49).natAbs ≤ _; omega) p2
    show kSeq (kIteS (kCmp .Lt (kV 1) (kC (.int 3))) (kSeq (kRet (kBin .Mult (kTup (kCons (kBin .Mult (kTup (kCons (kBin .Sub (kCall (runF cs fds (k + 2)) fo (kCons (kV 0) (kCons (kC (.int 99)) kNil)) kNil [0, 1]) (kC (.int 49))) kNil)) (kV 1)) kNil)) (kV 1))) kPass) kPass) _ _ _ = _
    have lt : cmpD .Lt (.d (.int n)) (.d (.int 3)) h1 = some (decide ((n : Int) < 3)) := rfl
    rw [decide_eq_true (by omega)] at lt
    refine seq_rt ((ite_t (h' := h1) (r := .d (.bl true)) (cmp_ok (v_ok rfl) c_ok lt) rfl).trans (seq_rt (ret_ok ?_)))
    exact bin_ok (x := .d (.tup [r0])) (tup_ok (rs := [.d r0]) (cons_ok (bin_ok (x := .d (.tup [.int ((z : Int) - 49)])) (tup_ok (rs := [.d (.int ((z : Int) - 49))]) (cons_ok (bin_ok (x := .d (.int z)) (y := .d (.int 49)) (call_ok (cons_ok (v_ok rfl) (cons_ok c_ok nil_ok)) nil_ok rfl e2) c_ok (sub_i _ _ h2)) nil_ok) ln1) (v_ok rfl) m1) nil_ok) ln1) (v_ok rfl) m2
  have : n = 1 ∨ n = 2 ∨ n = 3 ∨ n = 4 ∨ n = 5 := by omega
  rcases this with rfl | rfl | rfl | rfl | rfl
  · exact small _ (some (.ref h.length)) (by decide) (p.new _) (by kernel_rfl)
  · exact small _ (some (.ref h.length)) (by decide) (p.new _) (by kernel_rfl)
  · have p1 := p.new (.lst [sqF 3 (tb t3a), sqF 3 (tb t3b)])
    obtain ⟨c, S, h', b, ev, bd, p'⟩ := ev_rest (cs := cs) (k := k) o o1 ot 3 (by decide) (by decide) h.length (some (.ref h.length)) none none none none none none none none none none p1 (.lst [sqF 3 (tb t3a)]) rfl (fun x3 x4 x5 x6 x7 x8 x9 x10 x11 x12 h2 p2 => by
      obtain ⟨cells, m, c, rfl, l⟩ := p2
      refine ⟨.fl [sqF 3 (tb t3a)], if_t (x := .d (.bl true)) (cmp_ok (x := .d (.int 3)) (y := .d (.int 3)) (v_ok rfl) c_ok rfl) rfl (sl_ok (l := none) (u := some 1) (v_ok rfl) part_f (part_t c_ok) ?_), rfl⟩
      have hl : h.length = rest.length + 2 := p.len
      show (match viewL (pot cells m c (rest ++ [O.lst [sqF 3 (tb t3a), sqF 3 (tb t3b)]])) (.d (.ref h.length)) with | some ds => some (R.fl (cutD ds none (some 1))) | none => none) = _
      rw [hl, viewL_pot]; rfl) (fun _ _ _ => rfl)
    exact fin c S _ h' ((take_drop _ cs 3 (bEvenOf fo f1 ft) _ _ _ _ (ev_base3 _ h)).trans b) ev bd p'
  · have p1 := (p.new (.lst [sqF 3 (tb t3a), sqF 3 (tb t3b)])).new (.lst (BL 4))
    rw [List.append_assoc] at p1
    have hl : h.length + 1 = (rest ++ [O.lst [sqF 3 (tb t3a), sqF 3 (tb t3b)]]).length + 2 := by have := p.len; simp; omega
    have vw : ∀ cells m c, viewL (pot cells m c (rest ++ ([.lst [sqF 3 (tb t3a), sqF 3 (tb t3b)]] ++ [.lst (BL 4)]))) (.d (.ref (h.length + 1))) = some (BL 4) := fun cells m c => by
      rw [hl, ← List.append_assoc, viewL_pot]
    obtain ⟨c, S, h', b, ev, bd, p'⟩ := ev_rest (cs := cs) (k := k) o o1 ot 4 (by decide) (by decide) (h.length + 1) (some (.ref (h.length + 1))) none none none none none none none none none none p1 (.ref (h.length + 1)) rfl (fun x3 x4 x5 x6 x7 x8 x9 x10 x11 x12 h2 p2 =>
      ⟨.d (.ref (h.length + 1)), if_f (x := .d (.bl false)) (cmp_ok (x := .d (.int 4)) (y := .d (.int 3)) (v_ok rfl) c_ok rfl) rfl (v_ok rfl), rfl⟩) vw
    exact fin c S _ h' ((take_drop _ cs 3 (bEvenOf fo f1 ft) _ _ _ _ (ev_base4 _ h)).trans b) ev bd p'
  · have p1 := (p.new (.lst [sqF 3 (tb t3a), sqF 3 (tb t3b)])).new (.lst (BL 5))
    rw [List.append_assoc] at p1
    have hl : h.length + 1 = (rest ++ [O.lst [sqF 3 (tb t3a), sqF 3 (tb t3b)]]).length + 2 := by have := p.len; simp; omega
    have vw : ∀ cells m c, viewL (pot cells m c (rest ++ ([.lst [sqF 3 (tb t3a), sqF 3 (tb t3b)]] ++ [.lst (BL 5)]))) (.d (.ref (h.length + 1))) = some (BL 5) := fun cells m c => by
      rw [hl, ← List.append_assoc, viewL_pot]
    obtain ⟨c, S, h', b, ev, bd, p'⟩ := ev_rest (cs := cs) (k := k) o o1 ot 5 (by decide) (by decide) (h.length + 1) (some (.ref (h.length + 1))) none none none none none none none none none none p1 (.ref (h.length + 1)) rfl (fun x3 x4 x5 x6 x7 x8 x9 x10 x11 x12 h2 p2 =>
      ⟨.d (.ref (h.length + 1)), if_f (x := .d (.bl false)) (cmp_ok (x := .d (.int 5)) (y := .d (.int 3)) (v_ok rfl) c_ok rfl) rfl (v_ok rfl), rfl⟩) vw
    exact fin c S _ h' ((take_drop _ cs 3 (bEvenOf fo f1 ft) _ _ _ _ (ev_base5 _ h)).trans b) ev bd p'
end
end MP
end

section
set_option Elab.async false
set_option linter.all false
set_option maxRecDepth 100000
set_option maxHeartbeats 4000000
namespace MP
open PySem
/-! ## a drawn order -/
def bOrder (fo : Nat) : Ss := (.cons (.asg (.tp (.cons (.nm 2) (.cons (.nm 3) .nil))) (.tup (.cons (.al (.bi .lst (.cons (.v 1) .nil))) (.cons (.al (.lst .nil)) .nil)))) (.cons (.while (.cmp .NotEq (.v 2) (.lst .nil)) (.cons (.exp (.meth .append (.v 3) (.cons (.meth .popAt (.v 2) (.cons (.call fo (.cons (.v 0) (.cons (.bi .len (.cons (.v 2) .nil)) .nil)) .nil [0, 1]) .nil)) .nil))) .nil)) (.cons (.ret (.v 3)) .nil)))
structure IsOrder (fds : List FD) (i fo : Nat) : Prop where
  ex : ∃ fd, fds[i]? = some fd ∧ fd.body = bOrder fo ∧ fd.fz = true ∧ fd.ps.length = 2 ∧ fd.N.length = 4
/-- an item that is compared -/
structure Itm (d : D) : Prop where
  nr : nr 39 d = true
  py : ∃ p, (∀ h, MP.py h 39 d = some p) ∧ p.canLay0 = true ∧ p.depth ≤ 50
theorem py_items : ∀ {l : List D}, (∀ d ∈ l, Itm d) → ∃ ps, (∀ h, allO (l.map (MP.py h 39)) = some ps) ∧ ps.length = l.length ∧ PyData.canLayAll0 ps = true ∧ PyData.depthAll ps ≤ 50
  | [], _ => ⟨[], fun _ => rfl, rfl, by simp only [PyData.canLayAll0], by simp only [PyData.depthAll]; omega⟩
  | d :: l, h => by
    obtain ⟨p, e, c, z⟩ := (h d List.mem_cons_self).py
    obtain ⟨ps, e2, l2, c2, z2⟩ := py_items fun x hx => h x (List.mem_cons_of_mem _ hx)
    refine ⟨p :: ps, fun h => ?_, by simp [l2], by simp only [PyData.canLayAll0, c, c2, Bool.and_self], by simp only [PyData.depthAll]; omega⟩
    rw [List.map_cons, e h]
    unfold allO
    rw [e2 h]
theorem ne_nil {l : List D} (hl : ∀ d ∈ l, Itm d) {h : Hh} {q : Nat} (e : h[q]? = some (.lst l)) : cmpD .NotEq (.d (.ref q)) (.fl []) h = some (!l.isEmpty) := by
  obtain ⟨ps, e1, l1, c1, z1⟩ := py_items hl
  have py1 : MP.py h deep (.ref q) = some (.list ps) := by
    show (match h[q]? with | some (.lst ds) => (match allO (ds.map (MP.py h 39)) with | some l => some (PyData.list l) | none => none) | _ => none) = _
    rw [e]
    simp only [e1 h]
  have s1 : SeqAt.shaped (.list ps) = true := by
    show ((PyData.list ps).canLay0 && decide ((PyData.list ps).depth ≤ 64)) = true
    rw [show (PyData.list ps).canLay0 = true from by simp only [PyData.canLay0]; exact c1, decide_eq_true (by simp only [PyData.depth]; omega)]; rfl
  have s2 : SeqAt.shaped (.list []) = true := by decide +kernel
  show (match eqD (.d (.ref q)) (.fl []) h with | some b => some (!b) | none => none) = _
  have e3 : eqD (.d (.ref q)) (.fl []) h = some l.isEmpty := by
    show (match MP.py h deep (.ref q), MP.py h deep (.lst []) with
      | some a, some b => if SeqAt.shaped a && SeqAt.shaped b then some (PyData.eqv a b) else none
      | _, _ => none) = _
    rw [py1, show MP.py h deep (.lst []) = some (.list []) from rfl]
    simp only [s1, s2, Bool.and_self, if_true]
    cases ps with
    | nil =>
      cases l with
      | nil => simp only [PyData.eqv, PyData.eqvAll]; rfl
      | cons _ _ => simp at l1
    | cons p ps =>
      cases l with
      | nil => simp at l1
      | cons _ _ => simp only [PyData.eqv, PyData.eqvAll]; rfl
  rw [e3]
section
variable {cs : List D} {fds : List FD} {k fo : Nat} {rest : Hh}
theorem get_a (cells : List Int) (m c : Int) (rest : Hh) (a b : O) : (pot cells m c (rest ++ [a, b]))[rest.length + 2]? = some a := by
  show (rest ++ [a, b])[rest.length]? = _
  rw [List.getElem?_append_right (Nat.le_refl _), Nat.sub_self]; rfl
theorem get_b (cells : List Int) (m c : Int) (rest : Hh) (a b : O) : (pot cells m c (rest ++ [a, b]))[rest.length + 3]? = some b := by
  show (rest ++ [a, b])[rest.length + 1]? = _
  rw [List.getElem?_append_right (by omega), show rest.length + 1 - rest.length = 1 by omega]; rfl
theorem set_a (cells : List Int) (m c : Int) (rest : Hh) (a b x : O) : (pot cells m c (rest ++ [a, b])).set (rest.length + 2) x = pot cells m c (rest ++ [x, b]) := by
  show _ :: _ :: (rest ++ [a, b]).set rest.length x = _
  rw [List.set_append_right _ _ (Nat.le_refl _), Nat.sub_self]; rfl
theorem set_b (cells : List Int) (m c : Int) (rest : Hh) (a b x : O) : (pot cells m c (rest ++ [a, b])).set (rest.length + 3) x = pot cells m c (rest ++ [a, x]) := by
  show _ :: _ :: (rest ++ [a, b]).set (rest.length + 1) x = _
  rw [List.set_append_right _ _ (by omega), show rest.length + 1 - rest.length = 1 by omega]; rfl
theorem erase_perm {α : Type} : ∀ (L : List α) (z : Nat) (hz : z < L.length), (L[z] :: L.eraseIdx z).Perm L
  | x :: L, 0, _ => List.Perm.refl _
  | x :: L, z + 1, hz => by
    have hz' : z < L.length := by simpa using hz
    have ih := erase_perm L z hz'
    show (L[z] :: x :: L.eraseIdx z).Perm (x :: L)
    exact (List.Perm.swap x L[z] _).trans (ih.cons x)
def stO (fo : Nat) : S := nthS (bOrder fo) 1
theorem order_loop (o : IsOf fds fo) (row : List D) (x1 : Option D) : ∀ (j : Nat) (L Fd : List D) (f : Nat) (h : Hh), L.length = j → j < f → row.length < 1000 → (Fd ++ L).Perm row → (∀ d ∈ row, Itm d) → Pt (rest ++ [.lst L, .lst Fd]) h →
    ∃ (Fd' : List D) (h' : Hh), whileLoop (kTest (kCmp .NotEq (kV 2) (kLst kNil))) (kSeq (kExp (kMeth .append (kV 3) (kCons (kMeth .popAt (kV 2) (kCons (kCall (runF cs fds (k + 1)) fo (kCons (kV 0) (kCons (kBi .len (kCons (kV 2) kNil)) kNil)) kNil [0, 1]) kNil)) kNil))) kPass) f
      [some (.ref 1), x1, some (.ref (rest.length + 2)), some (.ref (rest.length + 3))] h = .ok (.nx [some (.ref 1), x1, some (.ref (rest.length + 2)), some (.ref (rest.length + 3))]) h' ∧ Fd'.Perm row ∧ Pt (rest ++ [.lst [], .lst Fd']) h' := by
  intro j
  induction j with
  | zero =>
    intro L Fd f h hj hf hr pm itm p
    cases f with
    | zero => omega
    | succ f =>
      obtain rfl := List.eq_nil_of_length_eq_zero hj
      obtain ⟨cells, m, c, rfl, l⟩ := p
      refine ⟨Fd, _, ?_, by simpa using pm, cells, m, c, rfl, l⟩
      unfold whileLoop
      have t : kTest (kCmp .NotEq (kV 2) (kLst kNil)) [some (.ref 1), x1, some (.ref (rest.length + 2)), some (.ref (rest.length + 3))] (pot cells m c (rest ++ [.lst [], .lst Fd])) = .ok false (pot cells m c (rest ++ [.lst [], .lst Fd])) := by
        unfold kTest
        rw [cmp_ok (x := .d (.ref (rest.length + 2))) (y := .fl []) (v_ok rfl) (lst_ok nil_ok ln0) (ne_nil (l := []) (fun d hd => nomatch hd) (get_a _ _ _ _ _ _)), ok_bind]
        rfl
      rw [t]
  | succ j ih =>
    intro L Fd f h hj hf hr pm itm p
    cases f with
    | zero => omega
    | succ f =>
      have hL : ∀ d ∈ L, Itm d := fun d hd => itm d (pm.subset (List.mem_append_right _ hd))
      have hlen := pm.length_eq
      rw [List.length_append] at hlen
      unfold whileLoop
      have t : kTest (kCmp .NotEq (kV 2) (kLst kNil)) [some (.ref 1), x1, some (.ref (rest.length + 2)), some (.ref (rest.length + 3))] h = .ok true h := by
        obtain ⟨cells, m, c, rfl, l⟩ := p
        unfold kTest
        rw [cmp_ok (x := .d (.ref (rest.length + 2))) (y := .fl []) (v_ok rfl) (lst_ok nil_ok ln0) (ne_nil hL (get_a _ _ _ _ _ _)), ok_bind]
        cases L with
        | nil => simp at hj
        | cons _ _ => rfl
      rw [t]
      obtain ⟨z, h1, e1, z1, p1⟩ := of_draw (cs := cs) (k := k) o p L.length (by omega) (by omega)
      obtain ⟨cells, m, c, rfl, l⟩ := p
      obtain ⟨cells1, m1, c1, rfl, l1⟩ := p1
      have vL : ∀ cells m c Fd, viewL (pot cells m c (rest ++ [.lst L, .lst Fd])) (.d (.ref (rest.length + 2))) = some L := fun cells m c Fd => by
        show (match (pot cells m c (rest ++ [.lst L, .lst Fd]))[rest.length + 2]? with | some (.lst ds) => some ds | _ => none) = _
        rw [get_a]
      have vF : ∀ cells m c L, viewL (pot cells m c (rest ++ [.lst L, .lst Fd])) (.d (.ref (rest.length + 3))) = some Fd := fun cells m c L => by
        show (match (pot cells m c (rest ++ [.lst L, .lst Fd]))[rest.length + 3]? with | some (.lst ds) => some ds | _ => none) = _
        rw [get_b]
      have len : biD .len [.d (.ref (rest.length + 2))] (pot cells m c (rest ++ [.lst L, .lst Fd])) = some (.d (.int L.length)) := by
        show bLen _ _ = _
        unfold bLen seq1 viewS
        simp only [viewT, vL]
      have hz : z < L.length := z1
      have pop : methD .popAt (.d (.ref (rest.length + 2))) [.d (.int z)] (pot cells1 m1 c1 (rest ++ [.lst L, .lst Fd])) = .ok (.d L[z]) (pot cells1 m1 c1 (rest ++ [.lst (L.eraseIdx z), .lst Fd])) := by
        unfold methD
        simp only [get_a]
        rw [show mD .popAt = mPopAt from rfl]
        unfold mPopAt
        simp only
        rw [if_pos (by omega)]
        unfold popAt
        have si : seqIndex? (z : Int) L.length = some z := by
          unfold seqIndex?
          have : ¬ ((z : Int) < 0) := by omega
          simp only [if_neg this]
          rw [show (decide (0 ≤ (z : Int)) && decide ((z : Int) < (L.length : Int))) = true by simp [hz]]
          simp
        rw [si]
        simp only [List.getElem?_eq_getElem hz]
        rw [set_a]
      have low : lowD (rest.length + 3) L[z] = true := nr_low 39 _ (hL _ (List.getElem_mem hz)).nr _
      have app : methD .append (.d (.ref (rest.length + 3))) [.d L[z]] (pot cells1 m1 c1 (rest ++ [.lst (L.eraseIdx z), .lst Fd])) = .ok (.d .non) (pot cells1 m1 c1 (rest ++ [.lst (L.eraseIdx z), .lst (Fd ++ [L[z]])])) := by
        unfold methD
        simp only [get_b]
        rw [show mD .append = mAppend from rfl]
        unfold mAppend
        show (if lowD (rest.length + 3) L[z] = true ∧ Fd.length < sizeLine then Out.ok (R.d D.non) ((pot cells1 m1 c1 (rest ++ [O.lst (L.eraseIdx z), O.lst Fd])).set (rest.length + 3) (O.lst (Fd ++ [L[z]]))) else .no) = _
        rw [if_pos ⟨low, by rw [sizeLine_eq]; omega⟩, set_b]
      have step : kSeq (kExp (kMeth .append (kV 3) (kCons (kMeth .popAt (kV 2) (kCons (kCall (runF cs fds (k + 1)) fo (kCons (kV 0) (kCons (kBi .len (kCons (kV 2) kNil)) kNil)) kNil [0, 1]) kNil)) kNil))) kPass
          [some (.ref 1), x1, some (.ref (rest.length + 2)), some (.ref (rest.length + 3))] (pot cells m c (rest ++ [.lst L, .lst Fd])) = .ok (.nx [some (.ref 1), x1, some (.ref (rest.length + 2)), some (.ref (rest.length + 3))]) (pot cells1 m1 c1 (rest ++ [.lst (L.eraseIdx z), .lst (Fd ++ [L[z]])])) :=
        (seq_nx (exp_ok (meth_ok (v_ok rfl) (vF cells m c L) (cons_ok (meth_ok (v_ok rfl) (vL cells m c Fd) (cons_ok (call_ok (cons_ok (v_ok rfl) (cons_ok (bi_ok (cons_ok (v_ok rfl) nil_ok) len) nil_ok)) nil_ok rfl e1) nil_ok) pop) nil_ok) app))).trans pass_ok
      simp only [step]
      have pm2 : ((Fd ++ [L[z]]) ++ L.eraseIdx z).Perm row := by
        refine List.Perm.trans ?_ pm
        rw [List.append_assoc]
        refine List.Perm.append_left Fd ?_
        show (L[z] :: L.eraseIdx z).Perm L
        exact erase_perm L z hz
      exact ih (L.eraseIdx z) (Fd ++ [L[z]]) f _ (by rw [List.length_eraseIdx, if_pos hz]; omega) (by omega) hr pm2 itm ⟨cells1, m1, c1, rfl, l1⟩
theorem order_call {i : Nat} {h : Hh} (oo : IsOrder fds i fo) (o : IsOf fds fo) (row : List D) (hr : row.length < 1000) (itm : ∀ d ∈ row, Itm d) (p : Pt rest h) :
    ∃ (l : List D) (h' : Hh), callD (runF cs fds (k + 2)) i [.ref 1, .lst row] h = .ok (.d (.lst l)) h' ∧ l.Perm row ∧ Pt rest h' := by
  obtain ⟨fd, q, qb, qz, qp, qN⟩ := oo.ex
  have p1 : Pt (rest ++ [O.lst row, O.lst []]) (h ++ [O.lst row] ++ [O.lst []]) := by
    have := (p.new (.lst row)).new (.lst [])
    rw [List.append_assoc rest] at this
    exact this
  obtain ⟨Fd, h', e1, pm, p2⟩ := order_loop (cs := cs) (k := k) (rest := rest) o row (some (.lst row)) row.length row [] FUEL (h ++ [O.lst row] ++ [O.lst []]) rfl (by unfold FUEL; omega) hr (by simp) itm p1
  have e2 : kWhile (kCmp .NotEq (kV 2) (kLst kNil)) (kSeq (kExp (kMeth .append (kV 3) (kCons (kMeth .popAt (kV 2) (kCons (kCall (runF cs fds (k + 1)) fo (kCons (kV 0) (kCons (kBi .len (kCons (kV 2) kNil)) kNil)) kNil [0, 1]) kNil)) kNil))) kPass)
      [some (.ref 1), some (.lst row), some (.ref (rest.length + 2)), some (.ref (rest.length + 3))] (h ++ [O.lst row] ++ [O.lst []]) = .ok (.nx [some (.ref 1), some (.lst row), some (.ref (rest.length + 2)), some (.ref (rest.length + 3))]) h' := by
    unfold kWhile
    exact e1
  have hl := p.len
  have s0 : kAsg (kTp (kTcons (kNm 2) (kTcons (kNm 3) kTnil))) (kTup (kCons (kAl (kBi .lst (kCons (kV 1) kNil))) (kCons (kAl (kLst kNil)) kNil))) [some (.ref 1), some (.lst row), none, none] h =
      .ok (.nx [some (.ref 1), some (.lst row), some (.ref (rest.length + 2)), some (.ref (rest.length + 3))]) (h ++ [.lst row] ++ [.lst []]) := by
    have a1 : kAl (kBi .lst (kCons (kV 1) kNil)) [some (.ref 1), some (.lst row), none, none] h = .ok (.d (.ref (rest.length + 2))) (h ++ [.lst row]) := by
      rw [← hl]; exact al_ok (bi_ok (cons_ok (v_ok rfl) nil_ok) rfl)
    have a2 : kAl (kLst kNil) [some (.ref 1), some (.lst row), none, none] (h ++ [.lst row]) = .ok (.d (.ref (rest.length + 3))) (h ++ [.lst row] ++ [.lst []]) := by
      have : (h ++ [O.lst row]).length = rest.length + 3 := by simp; omega
      rw [← this]; exact al_ok (lst_ok nil_ok ln0)
    exact asg_ok (tup_ok (rs := [.d (.ref (rest.length + 2)), .d (.ref (rest.length + 3))]) (cons_ok a1 (cons_ok a2 nil_ok)) ln2) (tp_ok (ds := [.ref (rest.length + 2), .ref (rest.length + 3)]) rfl (tcons_ok (nm_ok (lt_b rfl)) (tcons_ok (nm_ok (lt_b rfl)) tnil_ok)))
  have b : dSs (runF cs fds (k + 1)) cs (bOrder fo) [some (.ref 1), some (.lst row), none, none] h = .ok (.rt (.d (.ref (rest.length + 3)))) h' := by
    unfold bOrder
    simp only [dSs, dS, dE, dEs, dT, dTs]
    rw [seq_nx s0, seq_nx e2]
    exact seq_rt (ret_ok (v_ok rfl))
  refine ⟨Fd, h'.take (rest.length + 2), ?_, pm, p2.back⟩
  rw [callD_ref, run_rt q (by rw [qp, qN]; exact ⟨rfl, by decide⟩) (by rw [qb, qN]; exact b), qz]
  have hF : ∀ d ∈ Fd, nr 39 d = true := fun d hd => (itm d (pm.subset hd)).nr
  have hall : Fd.all (nr 39) = true := List.all_eq_true.mpr hF
  obtain ⟨cells, m, c, rfl, l⟩ := p2
  have fz : ∀ (h2 : Hh) (n : Nat), allO (Fd.map (frz h2 n 39)) = some Fd := fun h2 n => by
    have : ∀ l : List D, (∀ d ∈ l, nr 39 d = true) → allO (l.map (frz h2 n 39)) = some l := fun l => by
      induction l with
      | nil => exact fun _ => rfl
      | cons x l ih =>
        intro hh
        rw [List.map_cons, nr_frz 39 x (hh x List.mem_cons_self)]
        unfold allO
        rw [ih fun d hd => hh d (List.mem_cons_of_mem _ hd)]
    exact this Fd hF
  have fr : frz (pot cells m c (rest ++ [.lst [], .lst Fd])) h.length 40 (.ref (rest.length + 3)) = some (.lst Fd) := by
    show (if rest.length + 3 < h.length then some (D.ref (rest.length + 3)) else match (pot cells m c (rest ++ [.lst [], .lst Fd]))[rest.length + 3]? with
      | some (.lst ds) => (match allO (ds.map (frz (pot cells m c (rest ++ [.lst [], .lst Fd])) h.length 39)) with | some l => some (D.lst l) | none => none)
      | some (.dct _ ks ds) => (match allO (ds.map (frz (pot cells m c (rest ++ [.lst [], .lst Fd])) h.length 39)) with | some l => some (D.dct ks l) | none => none)
      | none => none) = _
    rw [if_neg (by omega), get_b]
    simp only [fz]
  unfold fin
  rw [if_pos rfl, show frzR (pot cells m c (rest ++ [.lst [], .lst Fd])) h.length (.d (.ref (rest.length + 3))) = some (.d (.lst Fd)) from by show (frz (pot cells m c (rest ++ [.lst [], .lst Fd])) h.length 40 (.ref (rest.length + 3))).map R.d = _; rw [fr]; rfl]
  show (if lowAll h.length Fd = true then _ else _) = _
  rw [if_pos (nr_all hall _), hl]
end
/-! ## a drawn line order -/
def bOrderOf (f1 fr : Nat) : Ss := (.cons (.asg (.nm 2) (.call fr (.cons (.v 0) (.cons (.lc (.call f1 (.cons (.v 0) (.cons (.lst (.cons (.v 3) (.cons (.bin .Sub (.bin .Sub (.v 1) (.c (.int 1))) (.v 3)) .nil))) .nil)) .nil [0, 1]) (.nm 3) (.rg1 (.bin .FloorDiv (.v 1) (.c (.int 2)))) .nil [3]) .nil)) .nil [0, 1])) (.cons (.ret (.bi .xtup (.cons (.bin .Add (.bin .Add (.v 2) (.ite (.cmp .Eq (.bin .Mod (.v 1) (.c (.int 2))) (.c (.int 1))) (.lst (.cons (.bin .FloorDiv (.v 1) (.c (.int 2))) .nil)) (.lst .nil))) (.lc (.bin .Sub (.bin .Sub (.v 1) (.c (.int 1))) (.v 3)) (.nm 3) (.e (.rev (.v 2))) .nil [3])) .nil))) .nil))
structure IsOrderOf (fds : List FD) (i f1 fr : Nat) : Prop where
  ex : ∃ fd, fds[i]? = some fd ∧ fd.body = bOrderOf f1 fr ∧ fd.fz = true ∧ fd.ps.length = 2 ∧ fd.N.length = 4
def LO : Nat → List (List Nat)
  | 1 => [[0]]
  | 2 => [[0, 1], [1, 0]]
  | 3 => [[0, 1, 2], [2, 1, 0]]
  | 4 => [[0, 1, 2, 3], [1, 0, 3, 2], [0, 2, 1, 3], [2, 0, 3, 1], [3, 1, 2, 0], [1, 3, 0, 2], [3, 2, 1, 0], [2, 3, 0, 1]]
  | 5 => [[0, 1, 2, 3, 4], [1, 0, 2, 4, 3], [0, 3, 2, 1, 4], [3, 0, 2, 4, 1], [4, 1, 2, 3, 0], [1, 4, 2, 0, 3], [4, 3, 2, 1, 0], [3, 4, 2, 0, 1]]
  | _ => []
def ordD (l : List Nat) : D := .xt (l.map fun x => .int (x : Nat))
theorem Itm.int (i : Int) : Itm (.int i) := ⟨rfl, .int i, fun _ => rfl, by simp only [PyData.canLay0], by simp only [PyData.depth]; omega⟩
section
variable {cs : List D} {fds : List FD} {k fo f1 fr : Nat} {rest h : Hh}
/-- the picks -/
theorem picks (o : IsOf fds fo) (o1 : IsOne fds f1 fo) (n : Nat) (hn : n < 1000) (x2 x3 : Option D) (p : Pt rest h) :
    ∃ (ys : List D) (h' : Hh), kLc (kCall (runF cs fds (k + 2)) f1 (kCons (kV 0) (kCons (kLst (kCons (kV 3) (kCons (kBin .Sub (kBin .Sub (kV 1) (kC (.int 1))) (kV 3)) kNil))) kNil)) kNil [0, 1]) (kNm 3) (kRg1 (kBin .FloorDiv (kV 1) (kC (.int 2)))) kYes [3] [some (.ref 1), some (.int n), x2, x3] h = .ok (.fl ys) h' ∧ Pt rest h' ∧
      All2 (fun (d y : D) => ∀ i : Nat, d = .int i → i < n → y = .int i ∨ y = .int ((n - 1 - i : Nat) : Int)) (nums (n / 2)) ys := by
  have it : kRg1 (kBin .FloorDiv (kV 1) (kC (.int 2))) [some (.ref 1), some (.int n), x2, x3] h = .ok (.st (nums (n / 2))) h := by
    have e := fdiv_p (n : Int) 2 h (by decide) (by decide)
    rw [show ((n : Int) / 2) = ((n / 2 : Nat) : Int) by omega] at e
    exact rg_ok (n := n / 2) (bin_ok (x := .d (.int n)) (y := .d (.int 2)) (v_ok rfl) c_ok e) (by omega)
  have turn : ∀ d ∈ nums (n / 2), ∀ h, Pt rest h → ∃ y h', kTurn (kCall (runF cs fds (k + 2)) f1 (kCons (kV 0) (kCons (kLst (kCons (kV 3) (kCons (kBin .Sub (kBin .Sub (kV 1) (kC (.int 1))) (kV 3)) kNil))) kNil)) kNil [0, 1]) (kNm 3) kYes (wipeE [some (.ref 1), some (.int n), x2, x3] [3]) d h = .ok (some y) h' ∧
      (∀ i : Nat, d = .int i → i < n → y = .int i ∨ y = .int ((n - 1 - i : Nat) : Int)) ∧ Pt rest h' := fun d hd h p => by
    obtain ⟨i, hi, rfl⟩ := List.mem_map.mp hd
    have hi := List.mem_range.mp hi
    obtain ⟨z, h1, e1, hz, p1⟩ := one_draw (cs := cs) (k := k) o1 o p (.lst [.int (i : Nat), .int ((n - 1 - i : Nat) : Int)]) [.int (i : Nat), .int ((n - 1 - i : Nat) : Int)] (fun _ _ _ => rfl) (by simp) (by simp) rfl
    have e3 : kBin .Sub (kBin .Sub (kV 1) (kC (.int 1))) (kV 3) [some (.ref 1), some (.int n), x2, some (.int (i : Nat))] h = .ok (.d (.int ((n - 1 - i : Nat) : Int))) h := by
      rw [show ((n - 1 - i : Nat) : Int) = (n : Int) - 1 - (i : Nat) by omega]
      exact bin_ok (x := .d (.int ((n : Int) - 1))) (y := .d (.int (i : Nat))) (bin_ok (x := .d (.int (n : Int))) (y := .d (.int 1)) (v_ok rfl) c_ok (sub_i _ _ h)) (v_ok rfl) (sub_i _ _ h)
    refine ⟨z, h1, turn_ok (en1 := [some (.ref 1), some (.int n), x2, some (.int (i : Nat))]) (r := .d z) (nm_ok (lt_b rfl)) yes_ok (call_ok (xs := [.d (.ref 1), .fl [.int (i : Nat), .int ((n - 1 - i : Nat) : Int)]]) (cons_ok (v_ok rfl) (cons_ok (lst_ok (rs := [.d (.int (i : Nat)), .d (.int ((n - 1 - i : Nat) : Int))]) (cons_ok (v_ok rfl) (cons_ok e3 nil_ok)) ln2) nil_ok)) nil_ok rfl e1), fun j ej hj => ?_, p1⟩
    have ej := D.int.inj ej
    have : i = j := by omega
    subst this
    simpa using hz
  have hF : (nums (n / 2)).length < FUEL := by simp [FUEL]; omega
  obtain ⟨ys, h', e, i, a⟩ := kLc_ysI (fun h => Pt rest h) (fun (d y : D) => ∀ i : Nat, d = .int i → i < n → y = .int i ∨ y = .int ((n - 1 - i : Nat) : Int)) it (Ys_st _) turn hF p
  exact ⟨ys, h', e, i, a⟩
theorem perm1 {α : Type} {a : α} {l : List α} (h : l.Perm [a]) : l = [a] := List.perm_singleton.mp h
theorem perm2 {α : Type} {a b : α} {l : List α} (h : l.Perm [a, b]) : l = [a, b] ∨ l = [b, a] := by
  match l, h.length_eq with
  | [x, y], _ =>
    have hx : x ∈ [a, b] := h.subset List.mem_cons_self
    simp only [List.mem_cons, List.not_mem_nil, or_false] at hx
    rcases hx with rfl | rfl
    · have := perm1 (List.Perm.cons_inv h)
      simp at this
      subst this
      exact .inl rfl
    · have := perm1 (List.Perm.cons_inv (h.trans (List.Perm.swap x a [])))
      simp at this
      subst this
      exact .inr rfl
theorem all2_nil {α β : Type} {P : α → β → Prop} {m : List β} (h : All2 P [] m) : m = [] := by cases h; rfl
theorem all2_cons {α β : Type} {P : α → β → Prop} {a : α} {l : List α} {m : List β} (h : All2 P (a :: l) m) : ∃ b r, m = b :: r ∧ P a b ∧ All2 P l r := by cases h with | cons p t => exact ⟨_, _, rfl, p, t⟩
theorem orderOf_call {i : Nat} (oo : IsOrderOf fds i f1 fr) (or : IsOrder fds fr fo) (o : IsOf fds fo) (o1 : IsOne fds f1 fo) (n : Nat) (n1 : 1 ≤ n) (n5 : n ≤ 5) (p : Pt rest h) :
    ∃ (l : List Nat) (h' : Hh), callD (runF cs fds (k + 3)) i [.ref 1, .int n] h = .ok (.d (ordD l)) h' ∧ l ∈ LO n ∧ Pt rest h' := by
  obtain ⟨fd, q, qb, qz, qp, qN⟩ := oo.ex
  obtain ⟨ys, h1, e1, p1, a1⟩ := picks (cs := cs) (k := k) o o1 n (by omega) none none p
  have itm : ∀ d ∈ ys, Itm d := fun d hd => by
    have : ∀ {l m : List D}, All2 (fun (d y : D) => ∀ i : Nat, d = .int i → i < n → y = .int i ∨ y = .int ((n - 1 - i : Nat) : Int)) l m → (∀ x ∈ l, ∃ i : Nat, x = .int i ∧ i < n) → ∀ y ∈ m, Itm y := fun {l m} a => by
      induction a with
      | nil => exact fun _ y hy => nomatch hy
      | cons p _ ih =>
        intro hx y hy
        rcases List.mem_cons.mp hy with rfl | hy
        · obtain ⟨i, e, hi⟩ := hx _ List.mem_cons_self
          rcases p i e hi with rfl | rfl <;> exact Itm.int _
        · exact ih (fun x h => hx x (List.mem_cons_of_mem _ h)) y hy
    refine this a1 (fun x hx => ?_) d hd
    obtain ⟨i, hi, rfl⟩ := List.mem_map.mp hx
    have := List.mem_range.mp hi
    exact ⟨i, rfl, by omega⟩
  have yl : ys.length < 1000 := by
    have : ys.length = (nums (n / 2)).length := by
      have : ∀ {l m : List D} {P : D → D → Prop}, All2 P l m → m.length = l.length := fun a => a.len
      exact this a1
    simp at this; omega
  obtain ⟨l, h2, e2, pm, p2⟩ := order_call (cs := cs) (k := k) or o ys yl itm p1
  have s0 : kAsg (kNm 2) (kCall (runF cs fds (k + 2)) fr (kCons (kV 0) (kCons (kLc (kCall (runF cs fds (k + 2)) f1 (kCons (kV 0) (kCons (kLst (kCons (kV 3) (kCons (kBin .Sub (kBin .Sub (kV 1) (kC (.int 1))) (kV 3)) kNil))) kNil)) kNil [0, 1]) (kNm 3) (kRg1 (kBin .FloorDiv (kV 1) (kC (.int 2)))) kYes [3]) kNil)) kNil [0, 1]) [some (.ref 1), some (.int n), none, none] h =
      .ok (.nx [some (.ref 1), some (.int n), some (.lst l), none]) h2 :=
    asg_ok (call_ok (xs := [.d (.ref 1), .fl ys]) (cons_ok (v_ok rfl) (cons_ok e1 nil_ok)) nil_ok rfl e2) (nm_ok (lt_b rfl))
  have fin : ∀ ol : List Nat, ol ∈ LO n → nr 40 (ordD ol) = true → dSs (runF cs fds (k + 2)) cs (dropS (bOrderOf f1 fr) 1) [some (.ref 1), some (.int n), some (.lst l), none] h2 = .ok (.rt (.d (ordD ol))) h2 →
      ∃ (l : List Nat) (h' : Hh), callD (runF cs fds (k + 3)) i [.ref 1, .int n] h = .ok (.d (ordD l)) h' ∧ l ∈ LO n ∧ Pt rest h' := fun ol hol hn b => by
    have b2 : dSs (runF cs fds (k + 2)) cs (bOrderOf f1 fr) [some (.ref 1), some (.int n), none, none] h = .ok (.rt (.d (ordD ol))) h2 := by
      show kSeq (kAsg (kNm 2) (kCall (runF cs fds (k + 2)) fr (kCons (kV 0) (kCons (kLc (kCall (runF cs fds (k + 2)) f1 (kCons (kV 0) (kCons (kLst (kCons (kV 3) (kCons (kBin .Sub (kBin .Sub (kV 1) (kC (.int 1))) (kV 3)) kNil))) kNil)) kNil [0, 1]) (kNm 3) (kRg1 (kBin .FloorDiv (kV 1) (kC (.int 2)))) kYes [3]) kNil)) kNil [0, 1])) (dSs (runF cs fds (k + 2)) cs (dropS (bOrderOf f1 fr) 1)) _ _ = _
      rw [seq_nx s0]
      exact b
    obtain ⟨h3, e3, p3⟩ := fn_pot (cs := cs) (k := k + 2) (ds := [.int n]) (e := []) q (by rw [qp, qN]; exact ⟨rfl, by decide⟩) qz p (show nrR (.d (ordD ol)) = true from hn) (by rw [qb, qN]; exact b2) (by rw [List.append_nil]; exact p2)
    exact ⟨ol, h3, e3, hol, p3⟩
  have : n = 1 ∨ n = 2 ∨ n = 3 ∨ n = 4 ∨ n = 5 := by omega
  rcases this with rfl | rfl | rfl | rfl | rfl
  · cases all2_nil a1
    cases List.perm_nil.mp pm
    exact fin [0] (by decide) rfl (by kernel_rfl)
  · obtain ⟨b, r, rfl, hb, a2⟩ := all2_cons a1
    cases all2_nil a2
    cases perm1 pm
    rcases hb 0 rfl (by decide) with rfl | rfl
    · exact fin [0, 1] (by decide) rfl (by kernel_rfl)
    · exact fin [1, 0] (by decide) rfl (by kernel_rfl)
  · obtain ⟨b, r, rfl, hb, a2⟩ := all2_cons a1
    cases all2_nil a2
    cases perm1 pm
    rcases hb 0 rfl (by decide) with rfl | rfl
    · exact fin [0, 1, 2] (by decide) rfl (by kernel_rfl)
    · exact fin [2, 1, 0] (by decide) rfl (by kernel_rfl)
  · obtain ⟨b, r, rfl, hb, a2⟩ := all2_cons a1
    obtain ⟨c, r, rfl, hc, a3⟩ := all2_cons a2
    cases all2_nil a3
    rcases hb 0 rfl (by decide) with rfl | rfl <;> rcases hc 1 rfl (by decide) with rfl | rfl <;> rcases perm2 pm with rfl | rfl
    · exact fin [0, 1, 2, 3] (by decide) rfl (by kernel_rfl)
    · exact fin [1, 0, 3, 2] (by decide) rfl (by kernel_rfl)
    · exact fin [0, 2, 1, 3] (by decide) rfl (by kernel_rfl)
    · exact fin [2, 0, 3, 1] (by decide) rfl (by kernel_rfl)
    · exact fin [3, 1, 2, 0] (by decide) rfl (by kernel_rfl)
    · exact fin [1, 3, 0, 2] (by decide) rfl (by kernel_rfl)
    · exact fin [3, 2, 1, 0] (by decide) rfl (by kernel_rfl)
    · exact fin [2, 3, 0, 1] (by decide) rfl (by kernel_rfl)
  · obtain ⟨b, r, rfl, hb, a2⟩ := all2_cons a1
    obtain ⟨c, r, rfl, hc, a3⟩ := all2_cons a2
    cases all2_nil a3
    rcases hb 0 rfl (by decide) with rfl | rfl <;> rcases hc 1 rfl (by decide) with rfl | rfl <;> rcases perm2 pm with rfl | rfl
    · exact fin [0, 1, 2, 3, 4] (by decide) rfl (by kernel_rfl)
    · exact fin [1, 0, 2, 4, 3] (by decide) rfl (by kernel_rfl)
    · exact fin [0, 3, 2, 1, 4] (by decide) rfl (by kernel_rfl)
    · exact fin [3, 0, 2, 4, 1] (by decide) rfl (by kernel_rfl)
    · exact fin [4, 1, 2, 3, 0] (by decide) rfl (by kernel_rfl)
    · exact fin [1, 4, 2, 0, 3] (by decide) rfl (by kernel_rfl)
    · exact fin [4, 3, 2, 1, 0] (by decide) rfl (by kernel_rfl)
    · exact fin [3, 4, 2, 0, 1] (by decide) rfl (by kernel_rfl)
end
end MP
end

section
set_option Elab.async false
set_option linter.all false
set_option maxRecDepth 100000
set_option maxHeartbeats 4000000
namespace MP
open PySem
/-! ## the program's functions of squares -/
def bQuarter : Ss := (.cons (.asg (.nm 1) (.bi .len (.cons (.v 0) .nil))) (.cons (.ret (.bi .tup (.cons (.lc (.bi .tup (.cons (.lc (.ix (.ix (.v 0) (.bin .Sub (.bin .Sub (.v 1) (.c (.int 1))) (.v 3))) (.v 2)) (.nm 3) (.rg1 (.v 1)) .nil [3]) .nil)) (.nm 2) (.rg1 (.v 1)) .nil [2]) .nil))) .nil))
def bMirror : Ss := (.cons (.asg (.nm 1) (.bi .len (.cons (.v 0) .nil))) (.cons (.ret (.bi .tup (.cons (.lc (.bi .tup (.cons (.lc (.ix (.ix (.v 0) (.v 3)) (.v 2)) (.nm 3) (.rg1 (.v 1)) .nil [3]) .nil)) (.nm 2) (.rg1 (.v 1)) .nil [2]) .nil))) .nil))
def bAllT (fq fm : Nat) : Ss := (.cons (.asg (.nm 1) (.al (.lst .nil))) (.cons (.for (.nm 2) (.e (.tup (.cons (.v 0) (.cons (.call fm (.cons (.v 0) .nil) .nil [0]) .nil)))) (.cons (.asg (.nm 3) (.v 2)) (.cons (.for (.nm 4) (.rg1 (.c (.int 4))) (.cons (.exp (.meth .append (.v 1) (.cons (.v 3) .nil))) (.cons (.asg (.nm 3) (.call fq (.cons (.v 3) .nil) .nil [0])) .nil))) .nil))) (.cons (.ret (.v 1)) .nil)))
def bTsq (fa : Nat) : Ss := (.cons (.ret (.ix (.call fa (.cons (.v 0) .nil) .nil [0]) (.v 1))) .nil)
def bOrd : Ss := (.cons (.ret (.bi .tup (.cons (.lc (.bi .tup (.cons (.lc (.ix (.ix (.v 0) (.v 2)) (.v 3)) (.nm 3) (.e (.v 1)) .nil [3]) .nil)) (.nm 2) (.e (.v 1)) .nil [2]) .nil))) .nil)
def bBehind : Ss := (.cons (.ret (.bi .tup (.cons (.lc (.ix (.v 0) (.v 2)) (.nm 2) (.e (.v 1)) .nil [2]) .nil))) .nil)
def bPut : Ss := (.cons (.ret (.bi .tup (.cons (.lc (.bi .tup (.cons (.lc (.bin .Add (.bin .Mult (.v 1) (.v 4)) (.v 2)) (.nm 4) (.e (.v 3)) .nil [4]) .nil)) (.nm 3) (.e (.v 0)) .nil [3]) .nil))) .nil)
/-- a def with one name, by its body -/
structure IsFn (fds : List FD) (i : Nat) (b : Ss) (ps N : Nat) : Prop where
  ex : ∃ fd, fds[i]? = some fd ∧ fd.body = b ∧ fd.fz = true ∧ fd.ps.length = ps ∧ fd.N.length = N
theorem fn_is {cs : List D} {fds : List FD} {k i ps N : Nat} {b : Ss} {ds : List D} {r : R} (f : IsFn fds i b ps N) (l : ds.length = ps ∧ ps ≤ N) (lo : ds.all (nr 40) = true) (nn : nrR r = true)
    (e : dSs (runF cs fds k) cs b (ds.map some ++ List.replicate (N - ds.length) none) [] = .ok (.rt r) []) (h : Hh) : callD (runF cs fds (k + 1)) i ds h = .ok r h := by
  obtain ⟨fd, q, qb, qz, qp, qN⟩ := f.ex
  exact fn_pure q (by rw [qp, qN]; exact l) qz lo nn (by rw [qb, qN]; exact e) h
section
variable {cs : List D} {fds : List FD} {k : Nat}
theorem quarter_call {i : Nat} (f : IsFn fds i bQuarter 1 4) (n : Nat) (hn : n < 1000) (c : Nat → Nat → Int) (h : Hh) : callD (runF cs fds (k + 1)) i [sqF n c] h = .ok (.d (sqF n (rot n c))) h := by
  refine fn_is f ⟨rfl, by decide⟩ (by rw [List.all_cons, nr_sq 37]; rfl) (show nrR (.d (sqF n (rot n c))) = true from nr_sq 37 n _) ?_ h
  unfold bQuarter
  simp only [dSs, dS, dE, dEs, dT, dTs, dI, dIf]
  have rg : ∀ (en : En), en[1]? = some (some (.int n)) → kRg1 (kV 1) en [] = .ok (.st (nums n)) [] := fun en e => rg_ok (v_ok e) (by omega)
  refine seq_asg (bi_ok (cons_ok (v_ok rfl) nil_ok) (len_sq n c [])) (lt_b rfl) (seq_rt (ret_ok (sq_comp (rot n c) hn (rg _ rfl) (Ys_st _) (fun i hi => nm_ok (lt_b rfl)) (fun i hi => rg _ rfl) (fun i hi => Ys_st _) (fun i j hi hj => nm_ok (lt_b rfl)) fun i l hi hl => ?_)))
  refine ix_ok (y := .d (.int (i : Nat))) (ix_ok (y := .d (.int ((n - 1 - l : Nat) : Int))) (v_ok rfl) ?_ (ix_sq (c := c) (by omega) [])) (v_ok rfl) (ix_row hi [])
  rw [show ((n - 1 - l : Nat) : Int) = (n : Int) - 1 - (l : Nat) by omega]
  exact bin_ok (x := .d (.int ((n : Int) - 1))) (y := .d (.int (l : Nat))) (bin_ok (x := .d (.int (n : Int))) (y := .d (.int 1)) (v_ok rfl) c_ok (sub_i _ _ [])) (v_ok rfl) (sub_i _ _ [])
theorem mirror_call {i : Nat} (f : IsFn fds i bMirror 1 4) (n : Nat) (hn : n < 1000) (c : Nat → Nat → Int) (h : Hh) : callD (runF cs fds (k + 1)) i [sqF n c] h = .ok (.d (sqF n fun i j => c j i)) h := by
  refine fn_is f ⟨rfl, by decide⟩ (by rw [List.all_cons, nr_sq 37]; rfl) (show nrR (.d (sqF n fun i j => c j i)) = true from nr_sq 37 n _) ?_ h
  unfold bMirror
  simp only [dSs, dS, dE, dEs, dT, dTs, dI, dIf]
  have rg : ∀ (en : En), en[1]? = some (some (.int n)) → kRg1 (kV 1) en [] = .ok (.st (nums n)) [] := fun en e => rg_ok (v_ok e) (by omega)
  exact seq_asg (bi_ok (cons_ok (v_ok rfl) nil_ok) (len_sq n c [])) (lt_b rfl) (seq_rt (ret_ok (sq_comp (fun i j => c j i) hn (rg _ rfl) (Ys_st _) (fun i hi => nm_ok (lt_b rfl)) (fun i hi => rg _ rfl) (fun i hi => Ys_st _) (fun i j hi hj => nm_ok (lt_b rfl)) fun i l hi hl =>
    ix_ok (ix_ok (v_ok rfl) (v_ok rfl) (ix_sq hl [])) (v_ok rfl) (ix_row hi []))))
def turns4 (n : Nat) (c : Nat → Nat → Int) : List D := (List.range 4).map fun t => sqF n (rots n c t)
theorem turn1 {nm : DenT} {en en' : En} {d : D} {h h' : Hh} {b : DenS} {o : Fl} (a : nm en (.d d) h = .ok en' h) (e : b en' h = .ok o h') : ((nm en (.d d) h).bind fun en h => b en h) = .ok o h' := by
  rw [a]; exact e
theorem allT_call {i fq fm : Nat} (f : IsFn fds i (bAllT fq fm) 1 5) (q : IsFn fds fq bQuarter 1 4) (m : IsFn fds fm bMirror 1 4) (n : Nat) (hn : n < 1000) (c : Nat → Nat → Int) (h : Hh) :
    callD (runF cs fds (k + 2)) i [sqF n c] h = .ok (.d (.lst (turns4 n c ++ turns4 n fun i j => c j i))) h := by
  have nrT : ∀ c : Nat → Nat → Int, (turns4 n c).all (nr 39) = true := fun c => nr_tab (k := 39) fun i _ => nr_sq 36 n _
  obtain ⟨fd, e, eb, ez, ep, eN⟩ := f.ex
  -- the inner loop
  have inner : ∀ (c0 : Nat → Nat → Int) (x2 x4 : Option D) (acc : List D), acc.length ≤ 8 → ∃ x3 x4', kFor (kNm 4) (kRg1 (kC (.int 4))) (kSeq (kExp (kMeth .append (kV 1) (kCons (kV 3) kNil))) (kSeq (kAsg (kNm 3) (kCall (runF cs fds (k + 1)) fq (kCons (kV 3) kNil) kNil [0])) kPass))
      [some (sqF n c), some (.ref 0), x2, some (sqF n c0), x4] [.lst acc] = .ok (.nx [some (sqF n c), some (.ref 0), x2, x3, x4']) [.lst (acc ++ turns4 n c0)] := fun c0 x2 x4 acc ha => by
    obtain ⟨en', h', e4, x, rfl, rfl⟩ := for_ys (step := fun d en h => (kNm 4 en (.d d) h).bind fun en h => kSeq (kExp (kMeth .append (kV 1) (kCons (kV 3) kNil))) (kSeq (kAsg (kNm 3) (kCall (runF cs fds (k + 1)) fq (kCons (kV 3) kNil) kNil [0])) kPass) en h)
      (fun t en h' => ∃ x, en = [some (sqF n c), some (.ref 0), x2, some (sqF n (rots n c0 t)), x] ∧ h' = [.lst (acc ++ (List.range t).map fun s => sqF n (rots n c0 s))]) (nums 4) (.st (nums 4)) 0 FUEL [some (sqF n c), some (.ref 0), x2, some (sqF n c0), x4] [.lst acc] (Ys_st _) (by
        rintro j d hd en h' ⟨x, rfl, rfl⟩
        have hj : j < 4 := by
          have := (List.getElem?_eq_some_iff.mp hd).1
          simpa using this
        rw [Nat.zero_add]
        refine ⟨[some (sqF n c), some (.ref 0), x2, some (sqF n (rots n c0 (j + 1))), some d], [.lst (acc ++ (List.range (j + 1)).map fun s => sqF n (rots n c0 s))], ?_, some d, rfl, rfl⟩
        rw [nm_ok (lt_b rfl), ok_bind]
        have ap := app_new [] (acc ++ (List.range j).map fun s => sqF n (rots n c0 s)) (sqF n (rots n c0 j)) (nr_low 40 _ (nr_sq 37 n _) _) (by simp; omega)
        rw [List.nil_append, List.nil_append, List.append_assoc, show ((List.range j).map (fun s => sqF n (rots n c0 s))) ++ [sqF n (rots n c0 j)] = (List.range (j + 1)).map fun s => sqF n (rots n c0 s) from by rw [List.range_succ, List.map_append]; rfl] at ap
        refine (seq_nx (exp_ok (meth_ok (x := .d (.ref 0)) (l := acc ++ (List.range j).map fun s => sqF n (rots n c0 s)) (v_ok rfl) rfl (cons_ok (v_ok rfl) nil_ok) ap))).trans ?_
        exact seq_asg (call_ok (cons_ok (v_ok rfl) nil_ok) nil_ok rfl (quarter_call q n hn (rots n c0 j) _)) (lt_b rfl) pass_ok) (by simp [FUEL]) ⟨x4, rfl, by simp⟩
    refine ⟨some (sqF n (rots n c0 4)), x, ?_⟩
    have it : kRg1 (kC (.int 4)) [some (sqF n c), some (.ref 0), x2, some (sqF n c0), x4] [.lst acc] = .ok (.st (nums 4)) [.lst acc] := rg_ok (n := 4) c_ok (by decide)
    exact for_ok it e4
  obtain ⟨y3, y4, i1⟩ := inner c (some (sqF n c)) none [] (by simp)
  obtain ⟨z3, z4, i2⟩ := inner (fun i j => c j i) (some (sqF n fun i j => c j i)) y4 (turns4 n c) (by unfold turns4; simp)
  have body : dSs (runF cs fds (k + 1)) cs (bAllT fq fm) [some (sqF n c), none, none, none, none] [] = .ok (.rt (.d (.ref 0))) [.lst (turns4 n c ++ turns4 n fun i j => c j i)] := by
    unfold bAllT
    simp only [dSs, dS, dE, dEs, dT, dTs, dI, dIf]
    refine seq_asg (al_ok (h1 := []) (lst_ok nil_ok ln0)) (lt_b rfl) ?_
    have it : kIe (kTup (kCons (kV 0) (kCons (kCall (runF cs fds (k + 1)) fm (kCons (kV 0) kNil) kNil [0]) kNil))) [some (sqF n c), some (.ref 0), none, none, none] [.lst []] = .ok (.st [sqF n c, sqF n fun i j => c j i]) [.lst []] :=
      ie_ok (tup_ok (rs := [.d (sqF n c), .d (sqF n fun i j => c j i)]) (cons_ok (v_ok rfl) (cons_ok (call_ok (cons_ok (v_ok rfl) nil_ok) nil_ok rfl (mirror_call m n hn c _)) nil_ok)) ln2) (cur_tup _ _)
    have lp : forLoop (fun d en h => (kNm 2 en (.d d) h).bind fun en h => kSeq (kAsg (kNm 3) (kV 2)) (kSeq (kFor (kNm 4) (kRg1 (kC (.int 4))) (kSeq (kExp (kMeth .append (kV 1) (kCons (kV 3) kNil))) (kSeq (kAsg (kNm 3) (kCall (runF cs fds (k + 1)) fq (kCons (kV 3) kNil) kNil [0])) kPass))) kPass) en h) FUEL (.st [sqF n c, sqF n fun i j => c j i]) [some (sqF n c), some (.ref 0), none, none, none] [.lst []] =
        .ok (.nx [some (sqF n c), some (.ref 0), some (sqF n fun i j => c j i), z3, z4]) [.lst (turns4 n c ++ turns4 n fun i j => c j i)] := by
      have s1 : kSeq (kAsg (kNm 3) (kV 2)) (kSeq (kFor (kNm 4) (kRg1 (kC (.int 4))) (kSeq (kExp (kMeth .append (kV 1) (kCons (kV 3) kNil))) (kSeq (kAsg (kNm 3) (kCall (runF cs fds (k + 1)) fq (kCons (kV 3) kNil) kNil [0])) kPass))) kPass) [some (sqF n c), some (.ref 0), some (sqF n c), none, none] [.lst []] =
          .ok (.nx [some (sqF n c), some (.ref 0), some (sqF n c), y3, y4]) [.lst (turns4 n c)] := seq_asg (v_ok rfl) (lt_b rfl) ((seq_nx i1).trans pass_ok)
      have s2 : kSeq (kAsg (kNm 3) (kV 2)) (kSeq (kFor (kNm 4) (kRg1 (kC (.int 4))) (kSeq (kExp (kMeth .append (kV 1) (kCons (kV 3) kNil))) (kSeq (kAsg (kNm 3) (kCall (runF cs fds (k + 1)) fq (kCons (kV 3) kNil) kNil [0])) kPass))) kPass) [some (sqF n c), some (.ref 0), some (sqF n fun i j => c j i), y3, y4] [.lst (turns4 n c)] =
          .ok (.nx [some (sqF n c), some (.ref 0), some (sqF n fun i j => c j i), z3, z4]) [.lst (turns4 n c ++ turns4 n fun i j => c j i)] := seq_asg (v_ok rfl) (lt_b rfl) ((seq_nx i2).trans pass_ok)
      have a1 := for_chain (step := fun d en h => (kNm 2 en (.d d) h).bind fun en h => kSeq (kAsg (kNm 3) (kV 2)) (kSeq (kFor (kNm 4) (kRg1 (kC (.int 4))) (kSeq (kExp (kMeth .append (kV 1) (kCons (kV 3) kNil))) (kSeq (kAsg (kNm 3) (kCall (runF cs fds (k + 1)) fq (kCons (kV 3) kNil) kNil [0])) kPass))) kPass) en h)
        [(sqF n c, [some (sqF n c), some (.ref 0), some (sqF n c), y3, y4], [.lst (turns4 n c)]), (sqF n (fun i j => c j i), [some (sqF n c), some (.ref 0), some (sqF n fun i j => c j i), z3, z4], [.lst (turns4 n c ++ turns4 n fun i j => c j i)])]
        FUEL [some (sqF n c), some (.ref 0), none, none, none] [.lst []] ⟨turn1 (nm_ok (lt_b rfl)) s1, turn1 (nm_ok (lt_b rfl)) s2, trivial⟩ (by simp [FUEL])
      exact a1
    exact (seq_nx (for_ok it lp)).trans (seq_rt (ret_ok (v_ok rfl)))
  have run : runF cs fds (k + 2) i [sqF n c] [] = .ok (.d (.lst (turns4 n c ++ turns4 n fun i j => c j i))) [] := by
    rw [run_rt e (by rw [ep, eN]; exact ⟨rfl, by decide⟩) (by rw [eb, eN]; exact body), ez]
    have all : (turns4 n c ++ turns4 n fun i j => c j i).all (nr 39) = true := by rw [List.all_append, nrT, nrT]; rfl
    have fz : allO ((turns4 n c ++ turns4 n fun i j => c j i).map (frz [.lst (turns4 n c ++ turns4 n fun i j => c j i)] 0 39)) = some (turns4 n c ++ turns4 n fun i j => c j i) := by
      generalize [O.lst (turns4 n c ++ turns4 n fun i j => c j i)] = h2
      have : ∀ l : List D, l.all (nr 39) = true → allO (l.map (frz h2 0 39)) = some l := fun l => by
        induction l with
        | nil => exact fun _ => rfl
        | cons x l ih =>
          intro hh
          rw [List.all_cons, Bool.and_eq_true] at hh
          rw [List.map_cons, nr_frz 39 x hh.1]
          unfold allO
          rw [ih hh.2]
      exact this _ all
    unfold fin
    rw [if_pos rfl, show frzR [.lst (turns4 n c ++ turns4 n fun i j => c j i)] ([] : Hh).length (.d (.ref 0)) = some (.d (.lst (turns4 n c ++ turns4 n fun i j => c j i))) from by
      show (match allO ((turns4 n c ++ turns4 n fun i j => c j i).map (frz [.lst (turns4 n c ++ turns4 n fun i j => c j i)] 0 39)) with | some l => some (D.lst l) | none => none).map R.d = _
      rw [fz]; rfl]
    show (if lowAll 0 (turns4 n c ++ turns4 n fun i j => c j i) = true then _ else _) = _
    rw [if_pos (nr_all all 0)]
    rfl
  exact callD_cl h (nr_all (k := 40) (by rw [List.all_cons, nr_sq 37]; rfl) 0) run
theorem tsq_call {i fa fq fm : Nat} (f : IsFn fds i (bTsq fa) 2 2) (a : IsFn fds fa (bAllT fq fm) 1 5) (q : IsFn fds fq bQuarter 1 4) (m : IsFn fds fm bMirror 1 4) (n : Nat) (hn : n < 1000) (c : Nat → Nat → Int) (t : Nat) (ht : t < 8) (h : Hh) :
    callD (runF cs fds (k + 3)) i [sqF n c, .int t] h = .ok (.d (sqF n (turnF n t c))) h := by
  refine fn_is f ⟨rfl, by decide⟩ (by rw [List.all_cons, nr_sq 37]; rfl) (show nrR (.d (sqF n (turnF n t c))) = true from nr_sq 37 n _) ?_ h
  unfold bTsq
  simp only [dSs, dS, dE, dEs, dT, dTs, dI, dIf]
  refine seq_rt (ret_ok (ix_ok (y := .d (.int t)) (call_ok (cons_ok (v_ok rfl) nil_ok) nil_ok rfl (allT_call a q m n hn c [])) (v_ok rfl) ?_))
  have : t = 0 ∨ t = 1 ∨ t = 2 ∨ t = 3 ∨ t = 4 ∨ t = 5 ∨ t = 6 ∨ t = 7 := by omega
  rcases this with rfl | rfl | rfl | rfl | rfl | rfl | rfl | rfl <;> rfl
/-! ### in a line order -/
/-- a row of places, as a value that is walked and asked -/
structure IsRowOf (n : Nat) (o : Nat → Nat) (d : D) : Prop where
  cur : ∀ h, curOf h (.d d) = some (.st ((List.range n).map fun i => D.int (o i : Nat)))
  ix : ∀ i h, i < n → ixD (.d d) (.d (.int (i : Nat))) h = some (.int (o i : Nat))
  nr : MP.nr 40 d = true
theorem rowOf_tup (n : Nat) (o : Nat → Nat) : IsRowOf n o (.tup ((List.range n).map fun i => D.int (o i : Nat))) := ⟨fun _ => rfl, fun i h hi => atI_tab hi, nr_tab (k := 39) fun _ _ => rfl⟩
theorem rowOf_xt (n : Nat) (o : Nat → Nat) : IsRowOf n o (.xt ((List.range n).map fun i => D.int (o i : Nat))) := ⟨fun _ => rfl, fun i h hi => atI_tab hi, nr_tab (k := 39) fun _ _ => rfl⟩
theorem ord_call {i : Nat} (f : IsFn fds i bOrd 2 4) (n : Nat) (hn : n < 1000) (c : Nat → Nat → Int) (o : Nat → Nat) (ho : ∀ i, i < n → o i < n) (d : D) (hd : IsRowOf n o d) (h : Hh) :
    callD (runF cs fds (k + 1)) i [sqF n c, d] h = .ok (.d (sqF n fun i j => c (o i) (o j))) h := by
  refine fn_is f ⟨rfl, by decide⟩ (by rw [List.all_cons, nr_sq 37, List.all_cons, hd.nr]; rfl) (show nrR (.d (sqF n fun i j => c (o i) (o j))) = true from nr_sq 37 n _) ?_ h
  unfold bOrd
  simp only [dSs, dS, dE, dEs, dT, dTs, dI, dIf]
  exact seq_rt (ret_ok (sq_comp (fun i j => c (o i) (o j)) hn (ie_ok (v_ok rfl) (hd.cur _)) (Ys_st _) (fun i hi => nm_ok (lt_b rfl)) (fun i hi => ie_ok (v_ok rfl) (hd.cur _)) (fun i hi => Ys_st _) (fun i j hi hj => nm_ok (lt_b rfl)) fun i l hi hl =>
    ix_ok (ix_ok (v_ok rfl) (v_ok rfl) (ix_sq (ho i hi) [])) (v_ok rfl) (ix_row (ho l hl) [])))
theorem behind_call {i : Nat} (f : IsFn fds i bBehind 2 3) (n : Nat) (hn : n < 1000) (o p : Nat → Nat) (hp : ∀ i, i < n → p i < n) (d e : D) (hd : IsRowOf n o d) (he : IsRowOf n p e) (h : Hh) :
    callD (runF cs fds (k + 1)) i [d, e] h = .ok (.d (.tup ((List.range n).map fun i => D.int (o (p i) : Nat)))) h := by
  refine fn_is f ⟨rfl, by decide⟩ (by rw [List.all_cons, hd.nr, List.all_cons, he.nr]; rfl) (show nrR (.d (.tup ((List.range n).map fun i => D.int (o (p i) : Nat)))) = true from nr_tab (k := 39) fun _ _ => rfl) ?_ h
  unfold bBehind
  simp only [dSs, dS, dE, dEs, dT, dTs, dI, dIf]
  exact seq_rt (ret_ok (bi_ok (cons_ok (kLc_tab (g := fun i => D.int (p i : Nat)) (fun i => D.int (o (p i) : Nat)) (ie_ok (v_ok rfl) (he.cur _)) (by unfold FUEL; omega) fun i hi =>
    turn_ok (r := .d (.int (o (p i) : Nat))) (nm_ok (lt_b rfl)) yes_ok (ix_ok (v_ok rfl) (v_ok rfl) (hd.ix _ _ (hp i hi)))) nil_ok) (tup_fl _ [])))
theorem put_call {i : Nat} (f : IsFn fds i bPut 3 5) (n : Nat) (hn : n < 1000) (c : Nat → Nat → Int) (a b : Int) (ha : a.natAbs < 18446744073709551616) (h : Hh) :
    callD (runF cs fds (k + 1)) i [sqF n c, .int a, .int b] h = .ok (.d (sqF n fun i j => a * c i j + b)) h := by
  refine fn_is f ⟨rfl, by decide⟩ (by rw [List.all_cons, nr_sq 37]; rfl) (show nrR (.d (sqF n fun i j => a * c i j + b)) = true from nr_sq 37 n _) ?_ h
  unfold bPut
  simp only [dSs, dS, dE, dEs, dT, dTs, dI, dIf]
  exact seq_rt (ret_ok (sq_comp (fun i j => a * c i j + b) hn (ie_ok (v_ok rfl) (cur_sq n c _)) (Ys_st _) (fun i hi => nm_ok (lt_b rfl)) (fun i hi => ie_ok (v_ok rfl) (cur_row n (c i) _)) (fun i hi => Ys_st _) (fun i j hi hj => nm_ok (lt_b rfl)) fun i l hi hl =>
    bin_ok (x := .d (.int (a * c i l))) (y := .d (.int b)) (bin_ok (x := .d (.int a)) (y := .d (.int (c i l))) (v_ok rfl) (v_ok rfl) (mul_lo _ _ [] ha)) (v_ok rfl) (add_i _ _ [])))
end
end MP
end

section
set_option Elab.async false
set_option linter.all false
set_option maxRecDepth 100000
set_option maxHeartbeats 4000000
namespace MP
open PySem
/-! ## lists of ints, as values -/
abbrev IL (l : List Int) : List D := l.map D.int
def tupI (l : List Int) : D := .tup (IL l)
theorem len_I (l : List Int) : (IL l).length = l.length := List.length_map ..
theorem intsD_I : ∀ l : List Int, intsD (IL l) = some l
  | [] => rfl
  | a :: l => by
    show (match intsD (IL l) with | some ns => some (a :: ns) | none => none) = _
    rw [intsD_I l]
theorem sum_I (l : List Int) (h : Hh) : biD .sum [.fl (IL l)] h = some (.d (.int l.sum)) := by
  show (match ints1 [R.fl (IL l)] h with | some ns => _ | none => _) = _
  have : ints1 [R.fl (IL l)] h = some l := intsD_I l
  rw [this]
theorem sum_L (l : List Int) (h : Hh) : biD .sum [.d (.lst (IL l))] h = some (.d (.int l.sum)) := by
  show (match ints1 [R.d (.lst (IL l))] h with | some ns => _ | none => _) = _
  have : ints1 [R.d (.lst (IL l))] h = some l := intsD_I l
  rw [this]
theorem sum_T (l : List Int) (h : Hh) : biD .sum [.d (tupI l)] h = some (.d (.int l.sum)) := by
  show (match ints1 [R.d (tupI l)] h with | some ns => _ | none => _) = _
  have : ints1 [R.d (tupI l)] h = some l := intsD_I l
  rw [this]
theorem len_TI (l : List Int) (h : Hh) : biD .len [.d (tupI l)] h = some (.d (.int l.length)) := by
  show some (R.d (.int ((IL l).length : Nat))) = _
  rw [len_I]
theorem py_I (h : Hh) (k : Nat) : ∀ l : List Int, allO ((IL l).map (py h (k + 1))) = some (l.map PyData.int)
  | [] => rfl
  | a :: l => by
    have := py_I h k l
    show allO (some (PyData.int a) :: (IL l).map (py h (k + 1))) = _
    unfold allO
    rw [this]; rfl
theorem py_TI (h : Hh) (l : List Int) : py h deep (tupI l) = some (.tuple (l.map .int)) := by
  show (match allO ((IL l).map (py h 39)) with | some l => some (PyData.tuple l) | none => none) = _
  rw [py_I h 38 l]
theorem py_LI (h : Hh) (l : List Int) : py h deep (.lst (IL l)) = some (.list (l.map .int)) := by
  show (match allO ((IL l).map (py h 39)) with | some l => some (PyData.list l) | none => none) = _
  rw [py_I h 38 l]
theorem lay_I : ∀ l : List Int, PyData.canLayAll0 (l.map PyData.int) = true ∧ PyData.depthAll (l.map PyData.int) ≤ 0
  | [] => ⟨by simp only [List.map_nil, PyData.canLayAll0], by simp only [List.map_nil, PyData.depthAll]; omega⟩
  | a :: l => ⟨by simp only [List.map_cons, PyData.canLayAll0, PyData.canLay0, (lay_I l).1, Bool.and_self], by have := (lay_I l).2; simp only [List.map_cons, PyData.depthAll, PyData.depth]; omega⟩
theorem shaped_T (l : List Int) : SeqAt.shaped (.tuple (l.map .int)) = true := by
  obtain ⟨h1, h2⟩ := lay_I l
  show ((PyData.tuple (l.map .int)).canLay0 && decide ((PyData.tuple (l.map .int)).depth ≤ 64)) = true
  rw [show (PyData.tuple (l.map .int)).canLay0 = true from by simp only [PyData.canLay0]; exact h1, decide_eq_true (by simp only [PyData.depth]; omega)]; rfl
theorem shaped_L (l : List Int) : SeqAt.shaped (.list (l.map .int)) = true := by
  obtain ⟨h1, h2⟩ := lay_I l
  show ((PyData.list (l.map .int)).canLay0 && decide ((PyData.list (l.map .int)).depth ≤ 64)) = true
  rw [show (PyData.list (l.map .int)).canLay0 = true from by simp only [PyData.canLay0]; exact h1, decide_eq_true (by simp only [PyData.depth]; omega)]; rfl
theorem eqv_I : ∀ l m : List Int, PyData.eqvAll (l.map .int) (m.map .int) = decide (l = m)
  | [], [] => by simp [PyData.eqvAll]
  | [], b :: m => by simp [PyData.eqvAll]
  | a :: l, [] => by simp [PyData.eqvAll]
  | a :: l, b :: m => by
    rw [List.map_cons, List.map_cons, PyData.eqvAll, eqv_I l m, PyData.eqv]
    by_cases e : a = b <;> by_cases f : l = m <;> simp [e, f]
theorem eq_T (l m : List Int) (h : Hh) : eqD (.d (tupI l)) (.d (tupI m)) h = some (decide (l = m)) := by
  show (match py h deep (tupI l), py h deep (tupI m) with | some a, some b => if SeqAt.shaped a && SeqAt.shaped b then some (PyData.eqv a b) else none | _, _ => none) = _
  rw [py_TI, py_TI]
  show (if (SeqAt.shaped (.tuple (l.map .int)) && SeqAt.shaped (.tuple (m.map .int))) = true then some (PyData.eqv (.tuple (l.map .int)) (.tuple (m.map .int))) else none) = _
  rw [shaped_T, shaped_T, PyData.eqv, eqv_I]; rfl
theorem eq_L (l m : List Int) (h : Hh) : eqD (.fl (IL l)) (.fl (IL m)) h = some (decide (l = m)) := by
  show (match py h deep (.lst (IL l)), py h deep (.lst (IL m)) with | some a, some b => if SeqAt.shaped a && SeqAt.shaped b then some (PyData.eqv a b) else none | _, _ => none) = _
  rw [py_LI, py_LI]
  show (if (SeqAt.shaped (.list (l.map .int)) && SeqAt.shaped (.list (m.map .int))) = true then some (PyData.eqv (.list (l.map .int)) (.list (m.map .int))) else none) = _
  rw [shaped_L, shaped_L, PyData.eqv, eqv_I]; rfl
theorem ceq {x y : R} {h : Hh} {b : Bool} (e : eqD x y h = some b) : cmpD .Eq x y h = some b := by simp only [cmpD]; exact e
theorem cne {x y : R} {h : Hh} {b : Bool} (e : eqD x y h = some b) : cmpD .NotEq x y h = some (!b) := by
  show (match eqD x y h with | some b => some (!b) | none => none) = _
  rw [e]
theorem eqi (i j : Int) (h : Hh) : cmpD .Eq (.d (.int i)) (.d (.int j)) h = some (decide (i = j)) := ceq rfl
theorem nei (i j : Int) (h : Hh) : cmpD .NotEq (.d (.int i)) (.d (.int j)) h = some (!decide (i = j)) := cne rfl
/-! sorted -/
abbrev ple (x y : D × PyData) : Bool := PySem.W.dataLe false (fun b : D × PyData => b.2) x y
theorem ple_int (a b : Int) : ple (.int a, .int a) (.int b, .int b) = decide (a ≤ b) := by
  show (!(decide (b < a) || (!decide (a < b) && false))) = _
  by_cases h : b < a
  · simp [h]
  · simp [h]; omega
def srtI : List Int → List Int := isort fun a b => decide (a ≤ b)
theorem ins_pi (x : Int) : ∀ l : List Int, insBy ple (.int x, .int x) (l.map fun a => (D.int a, PyData.int a)) = (insBy (fun a b => decide (a ≤ b)) x l).map fun a => (D.int a, PyData.int a)
  | [] => rfl
  | a :: l => by
    show (if ple (.int x, .int x) (.int a, .int a) then _ else _ :: insBy ple _ (l.map _)) = List.map _ (if decide (x ≤ a) = true then x :: a :: l else a :: insBy _ x l)
    rw [ple_int, ins_pi x l]
    by_cases e : x ≤ a <;> simp [e]
theorem isort_pi : ∀ l : List Int, isort ple (l.map fun a => (D.int a, PyData.int a)) = (srtI l).map fun a => (D.int a, PyData.int a)
  | [] => rfl
  | a :: l => by
    show insBy ple (.int a, .int a) (isort ple (l.map _)) = _
    rw [isort_pi l, ins_pi]; rfl
theorem flat_I (l : List Int) : (l.map PyData.int).all (flatI 0) = true := List.all_eq_true.mpr fun y hy => by obtain ⟨a, _, rfl⟩ := List.mem_map.mp hy; rfl
theorem plain_I (l : List Int) : (l.map PyData.int).all plainK = true := List.all_eq_true.mpr fun y hy => by obtain ⟨a, _, rfl⟩ := List.mem_map.mp hy; rfl
theorem dep_I (l : List Int) : (l.map PyData.int).all (fun p => decide (p.depth ≤ 40)) = true := List.all_eq_true.mpr fun y hy => by obtain ⟨a, _, rfl⟩ := List.mem_map.mp hy; rw [PyData.depth]; rfl
theorem srtD_I (l : List Int) (hl : l.length ≤ 1000000) (h : Hh) : srtD (IL l) h = some (.fl (IL (srtI l))) := by
  have e2 : pys h (IL l) = some (l.map .int) := py_I h 39 l
  unfold srtD
  rw [e2]
  have a4 : line (IL l).length = true := line_lt (by rw [len_I]; omega)
  have a5 : alikes (l.map PyData.int) = true := by unfold alikes; rw [flat_I]; rfl
  show (if _ then some (R.fl _) else none) = _
  rw [if_pos (by rw [a4, a5, plain_I, dep_I, Bool.or_true]; rfl)]
  have z : (IL l).zip (l.map PyData.int) = l.map fun a => (D.int a, PyData.int a) := by
    clear e2 a4 a5 hl
    induction l with
    | nil => rfl
    | cons a l ih => show (D.int a, PyData.int a) :: (IL l).zip (l.map PyData.int) = _; rw [ih]; rfl
  rw [z, isort_pi, List.map_map]; rfl
theorem srt_T (l : List Int) (hl : l.length ≤ 1000000) (h : Hh) : biD .srt [.d (tupI l)] h = some (.fl (IL (srtI l))) := srtD_I l hl h
theorem srt_L (l : List Int) (hl : l.length ≤ 1000000) (h : Hh) : biD .srt [.fl (IL l)] h = some (.fl (IL (srtI l))) := srtD_I l hl h
theorem ins_perm (x : Int) : ∀ l : List Int, (insBy (fun a b => decide (a ≤ b)) x l).Perm (x :: l)
  | [] => .refl _
  | a :: l => by
    show (if decide (x ≤ a) = true then x :: a :: l else a :: insBy _ x l).Perm _
    by_cases e : x ≤ a
    · simp [e]
    · simp only [e, decide_false]; exact ((ins_perm x l).cons a).trans (.swap x a l)
theorem srt_perm : ∀ l : List Int, (srtI l).Perm l
  | [] => .refl _
  | a :: l => (ins_perm a (srtI l)).trans ((srt_perm l).cons a)
/-- ordered from least to greatest -/
def Asc : List Int → Prop
  | [] => True
  | a :: l => (∀ x ∈ l, a ≤ x) ∧ Asc l
theorem ins_asc (x : Int) : ∀ l : List Int, Asc l → Asc (insBy (fun a b => decide (a ≤ b)) x l)
  | [], _ => ⟨fun _ h => (nomatch h), trivial⟩
  | a :: l, h => by
    show Asc (if decide (x ≤ a) = true then x :: a :: l else a :: insBy _ x l)
    by_cases e : x ≤ a
    · simp only [e, decide_true, if_true]
      refine ⟨fun y hy => ?_, h⟩
      rcases List.mem_cons.mp hy with rfl | hy
      · exact e
      · have := h.1 y hy; omega
    · simp only [e, decide_false]
      refine ⟨fun y hy => ?_, ins_asc x l h.2⟩
      rcases List.mem_cons.mp ((ins_perm x l).mem_iff.mp hy) with rfl | hy
      · omega
      · exact h.1 y hy
theorem srt_asc : ∀ l : List Int, Asc (srtI l)
  | [] => trivial
  | a :: l => ins_asc a _ (srt_asc l)
theorem srt_id : ∀ {l : List Int}, Asc l → srtI l = l
  | [], _ => rfl
  | a :: l, h => by
    show insBy _ a (srtI l) = _
    rw [srt_id h.2]
    cases l with
    | nil => rfl
    | cons b l =>
      show (if decide (a ≤ b) = true then a :: b :: l else _) = _
      rw [if_pos (decide_eq_true (h.1 b List.mem_cons_self))]
theorem asc_perm : ∀ {l m : List Int}, Asc l → Asc m → l.Perm m → l = m
  | [], m, _, _, p => (List.nil_perm.mp p).symm
  | a :: l, [], _, _, p => absurd p.length_eq (by simp)
  | a :: l, b :: m, h, k, p => by
    have e : a = b := by
      have h1 : a ∈ b :: m := p.mem_iff.mp List.mem_cons_self
      have h2 : b ∈ a :: l := p.mem_iff.mpr List.mem_cons_self
      rcases List.mem_cons.mp h1 with h1 | h1
      · exact h1
      · rcases List.mem_cons.mp h2 with h2 | h2
        · exact h2.symm
        · have := k.1 a h1
          have := h.1 b h2
          omega
    subst e
    rw [asc_perm h.2 k.2 ((List.perm_cons a).mp p)]
/-! zipped walks -/
theorem zipD_I : ∀ l m : List Int, zipD (IL l) (IL m) = List.zipWith (fun a b => D.tup [.int a, .int b]) l m
  | [], _ => by cases ‹List Int› <;> rfl
  | _ :: _, [] => rfl
  | a :: l, b :: m => by
    show D.tup [.int a, .int b] :: zipD (IL l) (IL m) = _
    rw [zipD_I l m]; rfl
theorem all2_zip {P : D → D → Prop} {f : Int → Int → Int} : ∀ {l m : List Int}, (∀ a b, a ∈ l → b ∈ m → P (.tup [.int a, .int b]) (.int (f a b))) → All2 P (List.zipWith (fun a b => D.tup [.int a, .int b]) l m) (IL (List.zipWith f l m))
  | [], m, _ => by cases m <;> exact .nil
  | _ :: _, [], _ => .nil
  | a :: l, b :: m, h => .cons (h a b List.mem_cons_self List.mem_cons_self) (all2_zip fun x y hx hy => h x y (List.mem_cons_of_mem _ hx) (List.mem_cons_of_mem _ hy))
/-- a comprehension over two lists of ints of one length -/
theorem zip_lc {elt : Den} {i j : Nat} {it : DenI} {own : List Nat} {en : En} {h h1 : Hh} {c d : Cur} {l m : List Int} (f : Int → Int → Int) (p : it en h = .ok (.zp c d) h1) (yc : Ys c (IL l)) (yd : Ys d (IL m)) (hl : l.length = m.length) (hm : m.length < FUEL)
    (hs : ∀ a b, a ∈ l → b ∈ m → kTurn elt (kTp (kTcons (kNm i) (kTcons (kNm j) kTnil))) kYes (wipeE en own) (.tup [.int a, .int b]) h1 = .ok (some (.int (f a b))) h1) :
    kLc elt (kTp (kTcons (kNm i) (kTcons (kNm j) kTnil))) it kYes own en h = .ok (.fl (IL (List.zipWith f l m))) h1 := by
  have y := Ys_zp yc yd (by rw [len_I, len_I, hl])
  rw [zipD_I] at y
  exact kLc_all2 p y (all2_zip hs) (by rw [List.length_zipWith]; omega)
end MP
end

section
set_option Elab.async false
set_option maxRecDepth 100000
set_option maxHeartbeats 0
namespace K96
open MP PySem
def c_MAX_BAG : D := (.int 64)
def c_MAX_BAGGED : D := (.int 1000000)
def c_MAX_DIGITED : D := (.int 1024)
def cs : List D := [c_MAX_BAG, c_MAX_BAGGED, c_MAX_DIGITED]
def b_is_integer : Ss := (.cons (.ret (.and (.bi .isInt (.cons (.v 0) .nil)) (.not (.bi .isBool (.cons (.v 0) .nil))))) .nil)
def f_is_integer : FD := { name := ⟨#[105, 115, 95, 105, 110, 116, 101, 103, 101, 114]⟩, ps := [⟨#[118, 97, 108, 117, 101]⟩], N := [⟨#[118, 97, 108, 117, 101]⟩], body := b_is_integer, fz := true }
def b_bag_error : Ss := (.cons (.ite (.or (.not (.bi .isTup (.cons (.v 0) .nil))) (.not (.chain .LtE .LtE (.c (.int 1)) (.bi .len (.cons (.v 0) .nil)) (.g 0)))) (.cons (.ret (.c (.str ⟨#[102, 111, 114, 109]⟩))) .nil) .nil) (.cons (.for (.tp (.cons (.nm 1) (.cons (.nm 2) .nil))) (.en (.v 0)) (.cons (.ite (.or (.not (.call 0 (.cons (.v 2) .nil) .nil [0])) (.cmp .Gt (.bi .abs (.cons (.v 2) .nil)) (.g 1))) (.cons (.ret (.tup (.cons (.c (.str ⟨#[105, 116, 101, 109]⟩)) (.cons (.v 1) .nil)))) .nil) .nil) .nil)) (.cons (.for (.nm 1) (.rg2 (.c (.int 1)) (.bi .len (.cons (.v 0) .nil))) (.cons (.ite (.cmp .Lt (.ix (.v 0) (.v 1)) (.ix (.v 0) (.bin .Sub (.v 1) (.c (.int 1))))) (.cons (.ret (.tup (.cons (.c (.str ⟨#[111, 114, 100, 101, 114]⟩)) (.cons (.v 1) .nil)))) .nil) .nil) .nil)) (.cons (.ret (.c .non)) .nil))))
def f_bag_error : FD := { name := ⟨#[98, 97, 103, 95, 101, 114, 114, 111, 114]⟩, ps := [⟨#[118, 97, 108, 117, 101]⟩], N := [⟨#[118, 97, 108, 117, 101]⟩, ⟨#[105]⟩, ⟨#[105, 116, 101, 109]⟩], body := b_bag_error, fz := true }
def b_power_sums : Ss := (.cons (.asg (.tp (.cons (.nm 3) (.cons (.nm 4) .nil))) (.tup (.cons (.bin .Mult (.lst (.cons (.c (.int 1)) .nil)) (.bi .len (.cons (.v 0) .nil))) (.cons (.al (.lst .nil)) .nil)))) (.cons (.for (.nm 2) (.rg1 (.bin .Add (.v 1) (.c (.int 1)))) (.cons (.exp (.meth .append (.v 4) (.cons (.bi .sum (.cons (.v 3) .nil)) .nil))) (.cons (.asg (.nm 3) (.lc (.bin .Mult (.v 5) (.v 6)) (.tp (.cons (.nm 5) (.cons (.nm 6) .nil))) (.zp (.v 3) (.v 0)) .nil [5, 6])) .nil))) (.cons (.ret (.bi .tup (.cons (.v 4) .nil))) .nil)))
def f_power_sums : FD := { name := ⟨#[112, 111, 119, 101, 114, 95, 115, 117, 109, 115]⟩, ps := [⟨#[98, 97, 103]⟩, ⟨#[107]⟩], N := [⟨#[98, 97, 103]⟩, ⟨#[107]⟩, ⟨#[115, 116, 101, 112]⟩, ⟨#[112, 111, 119, 101, 114, 115]⟩, ⟨#[102, 111, 117, 110, 100]⟩, ⟨#[112, 111, 119, 101, 114]⟩, ⟨#[105, 116, 101, 109]⟩], body := b_power_sums, fz := true }
def b_agree_to : Ss := (.cons (.ite (.cmp .NotEq (.bi .len (.cons (.v 0) .nil)) (.bi .len (.cons (.v 1) .nil))) (.cons (.ret (.neg (.c (.int 1)))) .nil) .nil) (.cons (.ite (.cmp .Eq (.v 0) (.v 1)) (.cons (.ret (.c .non)) .nil) .nil) (.cons (.asg (.tp (.cons (.nm 2) (.cons (.nm 3) (.cons (.nm 4) .nil)))) (.tup (.cons (.bi .lst (.cons (.v 0) .nil)) (.cons (.bi .lst (.cons (.v 1) .nil)) (.cons (.c (.int 0)) .nil))))) (.cons (.while (.cmp .Eq (.bi .sum (.cons (.v 2) .nil)) (.bi .sum (.cons (.v 3) .nil))) (.cons (.asg (.nm 2) (.lc (.bin .Mult (.v 5) (.v 6)) (.tp (.cons (.nm 5) (.cons (.nm 6) .nil))) (.zp (.v 2) (.v 0)) .nil [5, 6])) (.cons (.asg (.nm 3) (.lc (.bin .Mult (.v 5) (.v 6)) (.tp (.cons (.nm 5) (.cons (.nm 6) .nil))) (.zp (.v 3) (.v 1)) .nil [5, 6])) (.cons (.asg (.nm 4) (.bin .Add (.v 4) (.c (.int 1)))) .nil)))) (.cons (.ret (.v 4)) .nil)))))
def f_agree_to : FD := { name := ⟨#[97, 103, 114, 101, 101, 95, 116, 111]⟩, ps := [⟨#[111, 110, 101]⟩, ⟨#[111, 116, 104, 101, 114]⟩], N := [⟨#[111, 110, 101]⟩, ⟨#[111, 116, 104, 101, 114]⟩, ⟨#[111, 117, 114, 115]⟩, ⟨#[116, 104, 101, 105, 114, 115]⟩, ⟨#[107]⟩, ⟨#[112, 111, 119, 101, 114]⟩, ⟨#[105, 116, 101, 109]⟩], body := b_agree_to, fz := true }
def b_next_bags : Ss := (.cons (.asg (.nm 3) (.bi .srt (.cons (.bin .Add (.bi .lst (.cons (.v 0) .nil)) (.lc (.bin .Add (.v 4) (.v 2)) (.nm 4) (.e (.v 1)) .nil [4])) .nil))) (.cons (.ret (.tup (.cons (.bi .tup (.cons (.v 3) .nil)) (.cons (.bi .tup (.cons (.bi .srt (.cons (.bin .Add (.bi .lst (.cons (.v 1) .nil)) (.lc (.bin .Add (.v 4) (.v 2)) (.nm 4) (.e (.v 0)) .nil [4])) .nil)) .nil)) .nil)))) .nil))
def f_next_bags : FD := { name := ⟨#[110, 101, 120, 116, 95, 98, 97, 103, 115]⟩, ps := [⟨#[111, 110, 101]⟩, ⟨#[111, 116, 104, 101, 114]⟩, ⟨#[99]⟩], N := [⟨#[111, 110, 101]⟩, ⟨#[111, 116, 104, 101, 114]⟩, ⟨#[99]⟩, ⟨#[102, 105, 114, 115, 116]⟩, ⟨#[105, 116, 101, 109]⟩], body := b_next_bags, fz := true }
def b_one_order : Ss := (.cons (.ite (.cmp .Eq (.bi .srt (.cons (.v 0) .nil)) (.bi .srt (.cons (.v 1) .nil))) (.cons (.ret (.c .non)) .nil) .nil) (.cons (.asg (.nm 2) (.bi .mn (.cons (.bin .Add (.v 0) (.v 1)) .nil))) (.cons (.asg (.tp (.cons (.nm 3) (.cons (.nm 4) (.cons (.nm 5) .nil)))) (.tup (.cons (.bin .Mult (.lst (.cons (.c (.int 1)) .nil)) (.bi .len (.cons (.v 0) .nil))) (.cons (.bin .Mult (.lst (.cons (.c (.int 1)) .nil)) (.bi .len (.cons (.v 1) .nil))) (.cons (.c (.int 0)) .nil))))) (.cons (.while (.cmp .Eq (.bi .sum (.cons (.v 3) .nil)) (.bi .sum (.cons (.v 4) .nil))) (.cons (.asg (.nm 3) (.lc (.bin .FloorDiv (.bin .Mult (.v 6) (.bin .Sub (.bin .Sub (.v 7) (.v 2)) (.v 5))) (.bin .Add (.v 5) (.c (.int 1)))) (.tp (.cons (.nm 6) (.cons (.nm 7) .nil))) (.zp (.v 3) (.v 0)) .nil [6, 7])) (.cons (.asg (.nm 4) (.lc (.bin .FloorDiv (.bin .Mult (.v 6) (.bin .Sub (.bin .Sub (.v 7) (.v 2)) (.v 5))) (.bin .Add (.v 5) (.c (.int 1)))) (.tp (.cons (.nm 6) (.cons (.nm 7) .nil))) (.zp (.v 4) (.v 1)) .nil [6, 7])) (.cons (.asg (.nm 5) (.bin .Add (.v 5) (.c (.int 1)))) .nil)))) (.cons (.ret (.v 5)) .nil)))))
def f_one_order : FD := { name := ⟨#[111, 110, 101, 95, 111, 114, 100, 101, 114]⟩, ps := [⟨#[111, 110, 101]⟩, ⟨#[111, 116, 104, 101, 114]⟩], N := [⟨#[111, 110, 101]⟩, ⟨#[111, 116, 104, 101, 114]⟩, ⟨#[108, 101, 97, 115, 116]⟩, ⟨#[111, 117, 114, 115]⟩, ⟨#[116, 104, 101, 105, 114, 115]⟩, ⟨#[107]⟩, ⟨#[119, 97, 121, 115]⟩, ⟨#[105, 116, 101, 109]⟩], body := b_one_order, fz := true }
def b_product_row : Ss := (.cons (.asg (.nm 1) (.lst (.cons (.c (.int 1)) .nil))) (.cons (.for (.nm 2) (.e (.v 0)) (.cons (.asg (.nm 1) (.lc (.bin .Sub (.v 3) (.bin .Mult (.v 2) (.v 4))) (.tp (.cons (.nm 3) (.cons (.nm 4) .nil))) (.zp (.bin .Add (.lst (.cons (.c (.int 0)) .nil)) (.v 1)) (.bin .Add (.v 1) (.lst (.cons (.c (.int 0)) .nil)))) .nil [3, 4])) .nil)) (.cons (.ret (.bi .tup (.cons (.v 1) .nil))) .nil)))
def f_product_row : FD := { name := ⟨#[112, 114, 111, 100, 117, 99, 116, 95, 114, 111, 119]⟩, ps := [⟨#[98, 97, 103]⟩], N := [⟨#[98, 97, 103]⟩, ⟨#[102, 111, 117, 110, 100]⟩, ⟨#[105, 116, 101, 109]⟩, ⟨#[117, 112]⟩, ⟨#[111, 119, 110]⟩], body := b_product_row, fz := true }
def b_is_far_pair : Ss := (.cons (.ite (.or (.cmp .NotEq (.bi .len (.cons (.v 0) .nil)) (.bi .len (.cons (.v 1) .nil))) (.cmp .Eq (.v 0) (.v 1))) (.cons (.ret (.c (.bl false))) .nil) .nil) (.cons (.ret (.cmp .Eq (.sl true false (.call 6 (.cons (.v 0) .nil) .nil [0]) (.c (.int 1)) .none) (.sl true false (.call 6 (.cons (.v 1) .nil) .nil [0]) (.c (.int 1)) .none))) .nil))
def f_is_far_pair : FD := { name := ⟨#[105, 115, 95, 102, 97, 114, 95, 112, 97, 105, 114]⟩, ps := [⟨#[111, 110, 101]⟩, ⟨#[111, 116, 104, 101, 114]⟩], N := [⟨#[111, 110, 101]⟩, ⟨#[111, 116, 104, 101, 114]⟩], body := b_is_far_pair, fz := true }
def b_digit_place : Ss := (.cons (.asg (.nm 2) (.c (.int 0))) (.cons (.while (.cmp .Gt (.v 1) (.c (.int 0))) (.cons (.asg (.tp (.cons (.nm 2) (.cons (.nm 1) .nil))) (.tup (.cons (.bin .Add (.v 2) (.bin .Mod (.v 1) (.v 0))) (.cons (.bin .FloorDiv (.v 1) (.v 0)) .nil)))) .nil)) (.cons (.ret (.bin .Mod (.v 2) (.v 0))) .nil)))
def f_digit_place : FD := { name := ⟨#[100, 105, 103, 105, 116, 95, 112, 108, 97, 99, 101]⟩, ps := [⟨#[98, 97, 115, 101]⟩, ⟨#[120]⟩], N := [⟨#[98, 97, 115, 101]⟩, ⟨#[120]⟩, ⟨#[116, 111, 116, 97, 108]⟩], body := b_digit_place, fz := true }
def b_digit_lots : Ss := (.cons (.asg (.nm 2) (.c (.int 1))) (.cons (.for (.nm 3) (.rg1 (.bin .Add (.v 1) (.c (.int 1)))) (.cons (.asg (.nm 2) (.bin .Mult (.v 2) (.v 0))) .nil)) (.cons (.ite (.cmp .Gt (.v 2) (.g 2)) (.cons .raise .nil) .nil) (.cons (.asg (.nm 4) (.al (.lc (.al (.lst .nil)) (.nm 6) (.rg1 (.v 0)) .nil [6]))) (.cons (.for (.nm 5) (.rg1 (.v 2)) (.cons (.exp (.meth .append (.ix (.v 4) (.call 8 (.cons (.v 0) (.cons (.v 5) .nil)) .nil [0, 1])) (.cons (.v 5) .nil))) .nil)) (.cons (.ret (.bi .tup (.cons (.lc (.bi .tup (.cons (.v 7) .nil)) (.nm 7) (.e (.v 4)) .nil [7]) .nil))) .nil))))))
def f_digit_lots : FD := { name := ⟨#[100, 105, 103, 105, 116, 95, 108, 111, 116, 115]⟩, ps := [⟨#[98, 97, 115, 101]⟩, ⟨#[107]⟩], N := [⟨#[98, 97, 115, 101]⟩, ⟨#[107]⟩, ⟨#[109, 97, 110, 121]⟩, ⟨#[115, 116, 101, 112]⟩, ⟨#[102, 111, 117, 110, 100]⟩, ⟨#[120]⟩, ⟨#[112, 108, 97, 99, 101]⟩, ⟨#[108, 111, 116]⟩], body := b_digit_lots, fz := true }
def b_line_sums : Ss := (.cons (.asg (.tp (.cons (.nm 3) (.cons (.nm 4) .nil))) (.tup (.cons (.bi .len (.cons (.v 0) .nil)) (.cons (.bi .lrng1 (.cons (.bi .len (.cons (.v 0) .nil)) .nil)) .nil)))) (.cons (.asg (.nm 1) (.bi .tup (.cons (.lc (.bi .sum (.cons (.v 7) .nil)) (.nm 7) (.e (.v 0)) .nil [7]) .nil))) (.cons (.asg (.nm 2) (.bi .tup (.cons (.lc (.bi .sum (.cons (.lc (.ix (.v 7) (.v 8)) (.nm 7) (.e (.v 0)) .nil [7]) .nil)) (.nm 8) (.e (.v 4)) .nil [8]) .nil))) (.cons (.asg (.tp (.cons (.nm 5) (.cons (.nm 6) .nil))) (.tup (.cons (.bi .sum (.cons (.lc (.ix (.ix (.v 0) (.v 9)) (.v 9)) (.nm 9) (.e (.v 4)) .nil [9]) .nil)) (.cons (.bi .sum (.cons (.lc (.ix (.ix (.v 0) (.v 9)) (.bin .Sub (.bin .Sub (.v 3) (.c (.int 1))) (.v 9))) (.nm 9) (.e (.v 4)) .nil [9]) .nil)) .nil)))) (.cons (.ret (.tup (.cons (.v 1) (.cons (.v 2) (.cons (.tup (.cons (.v 5) (.cons (.v 6) .nil))) .nil))))) .nil)))))
def f_line_sums : FD := { name := ⟨#[108, 105, 110, 101, 95, 115, 117, 109, 115]⟩, ps := [⟨#[115, 113, 117, 97, 114, 101]⟩], N := [⟨#[115, 113, 117, 97, 114, 101]⟩, ⟨#[114, 111, 119, 115]⟩, ⟨#[99, 111, 108, 117, 109, 110, 115]⟩, ⟨#[110]⟩, ⟨#[112, 108, 97, 99, 101, 115]⟩, ⟨#[102, 97, 108, 108]⟩, ⟨#[114, 105, 115, 101]⟩, ⟨#[114, 111, 119]⟩, ⟨#[106]⟩, ⟨#[105]⟩], body := b_line_sums, fz := true }
def b_is_even_square : Ss := (.cons (.asg (.tp (.cons (.nm 1) (.cons (.nm 2) (.cons (.nm 3) .nil)))) (.call 10 (.cons (.v 0) .nil) .nil [0])) (.cons (.ret (.cmp .Eq (.bi .lenset (.cons (.bin .Add (.bin .Add (.v 1) (.v 2)) (.v 3)) .nil)) (.c (.int 1)))) .nil))
def f_is_even_square : FD := { name := ⟨#[105, 115, 95, 101, 118, 101, 110, 95, 115, 113, 117, 97, 114, 101]⟩, ps := [⟨#[115, 113, 117, 97, 114, 101]⟩], N := [⟨#[115, 113, 117, 97, 114, 101]⟩, ⟨#[114, 111, 119, 115]⟩, ⟨#[99, 111, 108, 117, 109, 110, 115]⟩, ⟨#[115, 108, 97, 110, 116, 115]⟩], body := b_is_even_square, fz := true }
def b_four_rows : Ss := (.cons (.asg (.tp (.cons (.nm 2) (.cons (.nm 3) (.cons (.nm 4) (.cons (.nm 5) .nil))))) (.v 0)) (.cons (.asg (.tp (.cons (.nm 6) (.cons (.nm 7) (.cons (.nm 8) (.cons (.nm 9) .nil))))) (.v 1)) (.cons (.ret (.tup (.cons (.tup (.cons (.bin .Add (.bin .Add (.bin .Add (.bin .Mult (.v 2) (.v 6)) (.bin .Mult (.v 3) (.v 7))) (.bin .Mult (.v 4) (.v 8))) (.bin .Mult (.v 5) (.v 9))) (.cons (.bin .Add (.bin .Sub (.bin .Sub (.bin .Mult (.v 2) (.v 8)) (.bin .Mult (.v 3) (.v 9))) (.bin .Mult (.v 4) (.v 6))) (.bin .Mult (.v 5) (.v 7))) (.cons (.bin .Add (.bin .Add (.bin .Sub (.bin .Mult (.neg (.v 2)) (.v 9)) (.bin .Mult (.v 3) (.v 8))) (.bin .Mult (.v 4) (.v 7))) (.bin .Mult (.v 5) (.v 6))) (.cons (.bin .Sub (.bin .Add (.bin .Sub (.bin .Mult (.v 2) (.v 7)) (.bin .Mult (.v 3) (.v 6))) (.bin .Mult (.v 4) (.v 9))) (.bin .Mult (.v 5) (.v 8))) .nil))))) (.cons (.tup (.cons (.bin .Sub (.bin .Add (.bin .Add (.bin .Mult (.neg (.v 2)) (.v 7)) (.bin .Mult (.v 3) (.v 6))) (.bin .Mult (.v 4) (.v 9))) (.bin .Mult (.v 5) (.v 8))) (.cons (.bin .Add (.bin .Add (.bin .Add (.bin .Mult (.v 2) (.v 9)) (.bin .Mult (.v 3) (.v 8))) (.bin .Mult (.v 4) (.v 7))) (.bin .Mult (.v 5) (.v 6))) (.cons (.bin .Sub (.bin .Add (.bin .Sub (.bin .Mult (.v 2) (.v 8)) (.bin .Mult (.v 3) (.v 9))) (.bin .Mult (.v 4) (.v 6))) (.bin .Mult (.v 5) (.v 7))) (.cons (.bin .Sub (.bin .Sub (.bin .Add (.bin .Mult (.v 2) (.v 6)) (.bin .Mult (.v 3) (.v 7))) (.bin .Mult (.v 4) (.v 8))) (.bin .Mult (.v 5) (.v 9))) .nil))))) (.cons (.tup (.cons (.bin .Sub (.bin .Sub (.bin .Add (.bin .Mult (.v 2) (.v 8)) (.bin .Mult (.v 3) (.v 9))) (.bin .Mult (.v 4) (.v 6))) (.bin .Mult (.v 5) (.v 7))) (.cons (.bin .Add (.bin .Sub (.bin .Add (.bin .Mult (.neg (.v 2)) (.v 6)) (.bin .Mult (.v 3) (.v 7))) (.bin .Mult (.v 4) (.v 8))) (.bin .Mult (.v 5) (.v 9))) (.cons (.bin .Add (.bin .Add (.bin .Add (.bin .Mult (.v 2) (.v 7)) (.bin .Mult (.v 3) (.v 6))) (.bin .Mult (.v 4) (.v 9))) (.bin .Mult (.v 5) (.v 8))) (.cons (.bin .Add (.bin .Sub (.bin .Sub (.bin .Mult (.v 2) (.v 9)) (.bin .Mult (.v 3) (.v 8))) (.bin .Mult (.v 4) (.v 7))) (.bin .Mult (.v 5) (.v 6))) .nil))))) (.cons (.tup (.cons (.bin .Add (.bin .Sub (.bin .Add (.bin .Mult (.neg (.v 2)) (.v 9)) (.bin .Mult (.v 3) (.v 8))) (.bin .Mult (.v 4) (.v 7))) (.bin .Mult (.v 5) (.v 6))) (.cons (.bin .Add (.bin .Add (.bin .Sub (.bin .Mult (.neg (.v 2)) (.v 7)) (.bin .Mult (.v 3) (.v 6))) (.bin .Mult (.v 4) (.v 9))) (.bin .Mult (.v 5) (.v 8))) (.cons (.bin .Sub (.bin .Add (.bin .Add (.bin .Mult (.neg (.v 2)) (.v 6)) (.bin .Mult (.v 3) (.v 7))) (.bin .Mult (.v 4) (.v 8))) (.bin .Mult (.v 5) (.v 9))) (.cons (.bin .Add (.bin .Add (.bin .Add (.bin .Mult (.v 2) (.v 8)) (.bin .Mult (.v 3) (.v 9))) (.bin .Mult (.v 4) (.v 6))) (.bin .Mult (.v 5) (.v 7))) .nil))))) .nil)))))) .nil)))
def f_four_rows : FD := { name := ⟨#[102, 111, 117, 114, 95, 114, 111, 119, 115]⟩, ps := [⟨#[111, 110, 101]⟩, ⟨#[111, 116, 104, 101, 114]⟩], N := [⟨#[111, 110, 101]⟩, ⟨#[111, 116, 104, 101, 114]⟩, ⟨#[97]⟩, ⟨#[98]⟩, ⟨#[99]⟩, ⟨#[100]⟩, ⟨#[112]⟩, ⟨#[113]⟩, ⟨#[114]⟩, ⟨#[115]⟩], body := b_four_rows, fz := true }
def b_four_sum : Ss := (.cons (.ret (.bi .sum (.cons (.lc (.bin .Mult (.v 1) (.v 1)) (.nm 1) (.e (.v 0)) .nil [1]) .nil))) .nil)
def f_four_sum : FD := { name := ⟨#[102, 111, 117, 114, 95, 115, 117, 109]⟩, ps := [⟨#[114, 111, 119]⟩], N := [⟨#[114, 111, 119]⟩, ⟨#[105, 116, 101, 109]⟩], body := b_four_sum, fz := true }
def b_squared_square : Ss := (.cons (.ret (.bi .tup (.cons (.lc (.bi .tup (.cons (.lc (.bin .Mult (.v 2) (.v 2)) (.nm 2) (.e (.v 1)) .nil [2]) .nil)) (.nm 1) (.e (.v 0)) .nil [1]) .nil))) .nil)
def f_squared_square : FD := { name := ⟨#[115, 113, 117, 97, 114, 101, 100, 95, 115, 113, 117, 97, 114, 101]⟩, ps := [⟨#[115, 113, 117, 97, 114, 101]⟩], N := [⟨#[115, 113, 117, 97, 114, 101]⟩, ⟨#[114, 111, 119]⟩, ⟨#[105, 116, 101, 109]⟩], body := b_squared_square, fz := true }
def b_is_twice_even : Ss := (.cons (.asg (.tp (.cons (.nm 1) (.cons (.nm 2) (.cons (.nm 3) .nil)))) (.call 10 (.cons (.call 14 (.cons (.v 0) .nil) .nil [0]) .nil) .nil [0])) (.cons (.ret (.and (.call 11 (.cons (.v 0) .nil) .nil [0]) (.cmp .Eq (.bi .lenset (.cons (.bin .Add (.bin .Add (.v 1) (.v 2)) (.v 3)) .nil)) (.c (.int 1))))) .nil))
def f_is_twice_even : FD := { name := ⟨#[105, 115, 95, 116, 119, 105, 99, 101, 95, 101, 118, 101, 110]⟩, ps := [⟨#[115, 113, 117, 97, 114, 101]⟩], N := [⟨#[115, 113, 117, 97, 114, 101]⟩, ⟨#[114, 111, 119, 115]⟩, ⟨#[99, 111, 108, 117, 109, 110, 115]⟩, ⟨#[115, 108, 97, 110, 116, 115]⟩], body := b_is_twice_even, fz := true }
def b_eight_square : Ss := (.cons (.ret (.tup (.cons (.tup (.cons (.c (.int 56)) (.cons (.c (.int 34)) (.cons (.c (.int 8)) (.cons (.c (.int 57)) (.cons (.c (.int 18)) (.cons (.c (.int 47)) (.cons (.c (.int 9)) (.cons (.c (.int 31)) .nil))))))))) (.cons (.tup (.cons (.c (.int 33)) (.cons (.c (.int 20)) (.cons (.c (.int 54)) (.cons (.c (.int 48)) (.cons (.c (.int 7)) (.cons (.c (.int 29)) (.cons (.c (.int 59)) (.cons (.c (.int 10)) .nil))))))))) (.cons (.tup (.cons (.c (.int 26)) (.cons (.c (.int 43)) (.cons (.c (.int 13)) (.cons (.c (.int 23)) (.cons (.c (.int 64)) (.cons (.c (.int 38)) (.cons (.c (.int 4)) (.cons (.c (.int 49)) .nil))))))))) (.cons (.tup (.cons (.c (.int 19)) (.cons (.c (.int 5)) (.cons (.c (.int 35)) (.cons (.c (.int 30)) (.cons (.c (.int 53)) (.cons (.c (.int 12)) (.cons (.c (.int 46)) (.cons (.c (.int 60)) .nil))))))))) (.cons (.tup (.cons (.c (.int 15)) (.cons (.c (.int 25)) (.cons (.c (.int 63)) (.cons (.c (.int 2)) (.cons (.c (.int 41)) (.cons (.c (.int 24)) (.cons (.c (.int 50)) (.cons (.c (.int 40)) .nil))))))))) (.cons (.tup (.cons (.c (.int 6)) (.cons (.c (.int 55)) (.cons (.c (.int 17)) (.cons (.c (.int 11)) (.cons (.c (.int 36)) (.cons (.c (.int 58)) (.cons (.c (.int 32)) (.cons (.c (.int 45)) .nil))))))))) (.cons (.tup (.cons (.c (.int 61)) (.cons (.c (.int 16)) (.cons (.c (.int 42)) (.cons (.c (.int 52)) (.cons (.c (.int 27)) (.cons (.c (.int 1)) (.cons (.c (.int 39)) (.cons (.c (.int 22)) .nil))))))))) (.cons (.tup (.cons (.c (.int 44)) (.cons (.c (.int 62)) (.cons (.c (.int 28)) (.cons (.c (.int 37)) (.cons (.c (.int 14)) (.cons (.c (.int 51)) (.cons (.c (.int 21)) (.cons (.c (.int 3)) .nil))))))))) .nil)))))))))) .nil)
def f_eight_square : FD := { name := ⟨#[101, 105, 103, 104, 116, 95, 115, 113, 117, 97, 114, 101]⟩, ps := [], N := [], body := b_eight_square, fz := true }
def b_nine_cell : Ss := (.cons (.asg (.tp (.cons (.nm 3) (.cons (.nm 4) (.cons (.nm 5) (.cons (.nm 6) .nil))))) (.tup (.cons (.bin .FloorDiv (.v 0) (.c (.int 3))) (.cons (.bin .Mod (.v 0) (.c (.int 3))) (.cons (.bin .FloorDiv (.v 1) (.c (.int 3))) (.cons (.bin .Mod (.v 1) (.c (.int 3))) .nil)))))) (.cons (.asg (.nm 2) (.tup (.cons (.bin .Mod (.bin .Add (.v 3) (.v 6)) (.c (.int 3))) (.cons (.bin .Mod (.bin .Add (.bin .Mult (.c (.int 2)) (.v 4)) (.v 5)) (.c (.int 3))) (.cons (.bin .Mod (.bin .Add (.bin .Add (.bin .Add (.bin .Mult (.c (.int 2)) (.v 3)) (.v 4)) (.v 5)) (.v 6)) (.c (.int 3))) (.cons (.bin .Mod (.bin .Add (.bin .Add (.bin .Add (.v 3) (.v 4)) (.v 5)) (.bin .Mult (.c (.int 2)) (.v 6))) (.c (.int 3))) .nil)))))) (.cons (.ret (.bin .Add (.bin .Add (.bin .Add (.bin .Add (.bin .Mult (.c (.int 27)) (.ix (.v 2) (.c (.int 0)))) (.bin .Mult (.c (.int 9)) (.ix (.v 2) (.c (.int 1))))) (.bin .Mult (.c (.int 3)) (.ix (.v 2) (.c (.int 2))))) (.ix (.v 2) (.c (.int 3)))) (.c (.int 1)))) .nil)))
def f_nine_cell : FD := { name := ⟨#[110, 105, 110, 101, 95, 99, 101, 108, 108]⟩, ps := [⟨#[105]⟩, ⟨#[106]⟩], N := [⟨#[105]⟩, ⟨#[106]⟩, ⟨#[102, 105, 103, 117, 114, 101, 115]⟩, ⟨#[97]⟩, ⟨#[98]⟩, ⟨#[99]⟩, ⟨#[101]⟩], body := b_nine_cell, fz := true }
def b_nine_square : Ss := (.cons (.ret (.bi .tup (.cons (.lc (.bi .tup (.cons (.lc (.call 17 (.cons (.v 0) (.cons (.v 1) .nil)) .nil [0, 1]) (.nm 1) (.rg1 (.c (.int 9))) .nil [1]) .nil)) (.nm 0) (.rg1 (.c (.int 9))) .nil [0]) .nil))) .nil)
def f_nine_square : FD := { name := ⟨#[110, 105, 110, 101, 95, 115, 113, 117, 97, 114, 101]⟩, ps := [], N := [⟨#[105]⟩, ⟨#[106]⟩], body := b_nine_square, fz := true }
def b__law_pot : Ss := (.cons (.asg (.tp (.cons (.nm 2) (.cons (.nm 3) .nil))) (.tup (.cons (.lc (.bin .Add (.bin .Mult (.c (.int 2)) (.bi .abs (.cons (.v 1) .nil))) (.bi .int (.cons (.cmp .Lt (.v 1) (.c (.int 0))) .nil))) (.nm 1) (.e (.sl false true (.v 0) .none (.c (.int 63)))) .nil [1]) (.cons (.bin .Add (.c (.int 19591)) (.bin .Mult (.c (.int 71)) (.bi .len (.cons (.v 0) .nil)))) .nil)))) (.cons (.for (.nm 1) (.e (.v 2)) (.cons (.asg (.nm 3) (.bin .Mod (.bin .Add (.bin .Add (.bin .Mult (.v 3) (.c (.int 69069))) (.v 1)) (.c (.int 11))) (.c (.int 4294967291)))) .nil)) (.cons (.ret (.al (.lst (.cons (.al (.lc (.v 1) (.nm 1) (.e (.v 2)) (.cons (.cmp .Gt (.v 1) (.bin .Pow (.c (.int 10)) (.c (.int 12)))) .nil) [1])) (.cons (.v 3) (.cons (.c (.int 0)) .nil)))))) .nil)))
def f__law_pot : FD := { name := ⟨#[95, 108, 97, 119, 95, 112, 111, 116]⟩, ps := [⟨#[115, 99, 114, 105, 112, 116]⟩], N := [⟨#[115, 99, 114, 105, 112, 116]⟩, ⟨#[99, 101, 108, 108]⟩, ⟨#[99, 101, 108, 108, 115]⟩, ⟨#[109, 105, 120, 101, 100]⟩], body := b__law_pot, fz := false }
def b__law_of : Ss := (.cons (.ite (.cmp .Lt (.v 1) (.c (.int 2))) (.cons (.ret (.c (.int 0))) .nil) .nil) (.cons (.ite (.cmp .NotEq (.ix (.v 0) (.c (.int 0))) (.lst .nil)) (.cons (.asg (.nm 3) (.meth .pop (.ix (.v 0) (.c (.int 0))) .nil)) (.cons (.ite (.cmp .GtE (.v 3) (.v 1)) (.cons (.exp (.meth .append (.ix (.v 0) (.c (.int 0))) (.cons (.bin .FloorDiv (.v 3) (.v 1)) .nil))) .nil) .nil) (.cons (.ret (.bin .Mod (.v 3) (.v 1))) .nil))) .nil) (.cons (.asg (.sb (.v 0) (.c (.int 2))) (.bin .Add (.ix (.v 0) (.c (.int 2))) (.c (.int 1)))) (.cons (.asg (.nm 2) (.bin .Mod (.bin .Add (.ix (.v 0) (.c (.int 1))) (.bin .Mult (.ix (.v 0) (.c (.int 2))) (.c (.int 2654435761)))) (.c (.int 4294967279)))) (.cons (.asg (.nm 2) (.bin .Mod (.bin .Add (.bin .Add (.bin .Mult (.v 2) (.v 2)) (.bin .Mult (.ix (.v 0) (.c (.int 2))) (.c (.int 40503)))) (.c (.int 5))) (.c (.int 4294967231)))) (.cons (.asg (.nm 2) (.bin .Mod (.bin .Add (.bin .Mult (.v 2) (.v 2)) (.ix (.v 0) (.c (.int 1)))) (.c (.int 4294967291)))) (.cons (.ret (.bin .Mod (.bin .FloorDiv (.v 2) (.c (.int 256))) (.v 1))) .nil)))))))
def f__law_of : FD := { name := ⟨#[95, 108, 97, 119, 95, 111, 102]⟩, ps := [⟨#[112, 111, 116]⟩, ⟨#[109, 97, 110, 121]⟩], N := [⟨#[112, 111, 116]⟩, ⟨#[109, 97, 110, 121]⟩, ⟨#[110, 117, 109, 98, 101, 114]⟩, ⟨#[99, 101, 108, 108]⟩], body := b__law_of, fz := true }
def b__law_one : Ss := (.cons (.ret (.ix (.v 1) (.call 20 (.cons (.v 0) (.cons (.bi .len (.cons (.v 1) .nil)) .nil)) .nil [0, 1]))) .nil)
def f__law_one : FD := { name := ⟨#[95, 108, 97, 119, 95, 111, 110, 101]⟩, ps := [⟨#[112, 111, 116]⟩, ⟨#[105, 116, 101, 109, 115]⟩], N := [⟨#[112, 111, 116]⟩, ⟨#[105, 116, 101, 109, 115]⟩], body := b__law_one, fz := true }
def b__law_order : Ss := (.cons (.asg (.tp (.cons (.nm 2) (.cons (.nm 3) .nil))) (.tup (.cons (.al (.bi .lst (.cons (.v 1) .nil))) (.cons (.al (.lst .nil)) .nil)))) (.cons (.while (.cmp .NotEq (.v 2) (.lst .nil)) (.cons (.exp (.meth .append (.v 3) (.cons (.meth .popAt (.v 2) (.cons (.call 20 (.cons (.v 0) (.cons (.bi .len (.cons (.v 2) .nil)) .nil)) .nil [0, 1]) .nil)) .nil))) .nil)) (.cons (.ret (.v 3)) .nil)))
def f__law_order : FD := { name := ⟨#[95, 108, 97, 119, 95, 111, 114, 100, 101, 114]⟩, ps := [⟨#[112, 111, 116]⟩, ⟨#[114, 111, 119]⟩], N := [⟨#[112, 111, 116]⟩, ⟨#[114, 111, 119]⟩, ⟨#[108, 101, 102, 116]⟩, ⟨#[102, 111, 117, 110, 100]⟩], body := b__law_order, fz := true }
def b__law_lines : Ss := (.cons (.asg (.nm 1) (.lc (.lc (.tup (.cons (.v 3) (.cons (.v 4) .nil))) (.nm 4) (.rg1 (.v 0)) .nil [4]) (.nm 3) (.rg1 (.v 0)) .nil [3])) (.cons (.asg (.nm 2) (.lc (.lc (.tup (.cons (.v 3) (.cons (.v 4) .nil))) (.nm 3) (.rg1 (.v 0)) .nil [3]) (.nm 4) (.rg1 (.v 0)) .nil [4])) (.cons (.ret (.bin .Add (.bin .Add (.v 1) (.v 2)) (.lst (.cons (.lc (.tup (.cons (.v 3) (.cons (.v 3) .nil))) (.nm 3) (.rg1 (.v 0)) .nil [3]) (.cons (.lc (.tup (.cons (.v 3) (.cons (.bin .Sub (.bin .Sub (.v 0) (.c (.int 1))) (.v 3)) .nil))) (.nm 3) (.rg1 (.v 0)) .nil [3]) .nil))))) .nil)))
def f__law_lines : FD := { name := ⟨#[95, 108, 97, 119, 95, 108, 105, 110, 101, 115]⟩, ps := [⟨#[110]⟩], N := [⟨#[110]⟩, ⟨#[114, 111, 119, 115]⟩, ⟨#[99, 111, 108, 117, 109, 110, 115]⟩, ⟨#[105]⟩, ⟨#[106]⟩], body := b__law_lines, fz := true }
def b__law_line_sums : Ss := (.cons (.ret (.lc (.bi .sum (.cons (.lc (.ix (.ix (.v 0) (.v 2)) (.v 3)) (.tp (.cons (.nm 2) (.cons (.nm 3) .nil))) (.e (.v 1)) .nil [2, 3]) .nil)) (.nm 1) (.e (.call 23 (.cons (.bi .len (.cons (.v 0) .nil)) .nil) .nil [0])) .nil [1])) .nil)
def f__law_line_sums : FD := { name := ⟨#[95, 108, 97, 119, 95, 108, 105, 110, 101, 95, 115, 117, 109, 115]⟩, ps := [⟨#[115, 113, 117, 97, 114, 101]⟩], N := [⟨#[115, 113, 117, 97, 114, 101]⟩, ⟨#[108, 105, 110, 101]⟩, ⟨#[105]⟩, ⟨#[106]⟩], body := b__law_line_sums, fz := true }
def b__law_turned : Ss := (.cons (.asg (.nm 2) (.bi .len (.cons (.v 0) .nil))) (.cons (.asg (.nm 3) (.v 0)) (.cons (.ite (.cmp .Gt (.v 1) (.c (.int 3))) (.cons (.asg (.nm 3) (.bi .tup (.cons (.lc (.bi .tup (.cons (.lc (.ix (.ix (.v 0) (.v 6)) (.v 5)) (.nm 6) (.rg1 (.v 2)) .nil [6]) .nil)) (.nm 5) (.rg1 (.v 2)) .nil [5]) .nil))) .nil) .nil) (.cons (.for (.nm 4) (.rg1 (.bin .Mod (.bi .int (.cons (.v 1) .nil)) (.c (.int 4)))) (.cons (.asg (.nm 3) (.bi .tup (.cons (.lc (.bi .tup (.cons (.lc (.ix (.ix (.v 3) (.bin .Sub (.bin .Sub (.v 2) (.c (.int 1))) (.v 6))) (.v 5)) (.nm 6) (.rg1 (.v 2)) .nil [6]) .nil)) (.nm 5) (.rg1 (.v 2)) .nil [5]) .nil))) .nil)) (.cons (.ret (.v 3)) .nil)))))
def f__law_turned : FD := { name := ⟨#[95, 108, 97, 119, 95, 116, 117, 114, 110, 101, 100]⟩, ps := [⟨#[115, 113, 117, 97, 114, 101]⟩, ⟨#[107]⟩], N := [⟨#[115, 113, 117, 97, 114, 101]⟩, ⟨#[107]⟩, ⟨#[110]⟩, ⟨#[102, 111, 117, 110, 100]⟩, ⟨#[116, 117, 114, 110]⟩, ⟨#[105]⟩, ⟨#[106]⟩], body := b__law_turned, fz := true }
def b__law_even_of : Ss := (.cons (.asg (.nm 2) (.al (.lst (.cons (.tup (.cons (.tup (.cons (.c (.int 8)) (.cons (.c (.int 1)) (.cons (.c (.int 6)) .nil)))) (.cons (.tup (.cons (.c (.int 3)) (.cons (.c (.int 5)) (.cons (.c (.int 7)) .nil)))) (.cons (.tup (.cons (.c (.int 4)) (.cons (.c (.int 9)) (.cons (.c (.int 2)) .nil)))) .nil)))) (.cons (.tup (.cons (.tup (.cons (.c (.int 0)) (.cons (.c (.int 1)) (.cons (.c (.int 2)) .nil)))) (.cons (.tup (.cons (.c (.int 2)) (.cons (.c (.int 0)) (.cons (.c (.int 1)) .nil)))) (.cons (.tup (.cons (.c (.int 1)) (.cons (.c (.int 2)) (.cons (.c (.int 0)) .nil)))) .nil)))) .nil))))) (.cons (.ite (.cmp .Eq (.v 1) (.c (.int 4))) (.cons (.asg (.nm 2) (.al (.lst (.cons (.tup (.cons (.tup (.cons (.c (.int 16)) (.cons (.c (.int 3)) (.cons (.c (.int 2)) (.cons (.c (.int 13)) .nil))))) (.cons (.tup (.cons (.c (.int 5)) (.cons (.c (.int 10)) (.cons (.c (.int 11)) (.cons (.c (.int 8)) .nil))))) (.cons (.tup (.cons (.c (.int 9)) (.cons (.c (.int 6)) (.cons (.c (.int 7)) (.cons (.c (.int 12)) .nil))))) (.cons (.tup (.cons (.c (.int 4)) (.cons (.c (.int 15)) (.cons (.c (.int 14)) (.cons (.c (.int 1)) .nil))))) .nil))))) .nil)))) (.cons (.exp (.meth .append (.v 2) (.cons (.tup (.cons (.tup (.cons (.c (.int 1)) (.cons (.c (.int 15)) (.cons (.c (.int 10)) (.cons (.c (.int 8)) .nil))))) (.cons (.tup (.cons (.c (.int 14)) (.cons (.c (.int 4)) (.cons (.c (.int 5)) (.cons (.c (.int 11)) .nil))))) (.cons (.tup (.cons (.c (.int 7)) (.cons (.c (.int 9)) (.cons (.c (.int 16)) (.cons (.c (.int 2)) .nil))))) (.cons (.tup (.cons (.c (.int 12)) (.cons (.c (.int 6)) (.cons (.c (.int 3)) (.cons (.c (.int 13)) .nil))))) .nil))))) .nil))) (.cons (.exp (.meth .append (.v 2) (.cons (.tup (.cons (.tup (.cons (.c (.int 0)) (.cons (.c (.int 1)) (.cons (.c (.int 2)) (.cons (.c (.int 3)) .nil))))) (.cons (.tup (.cons (.c (.int 2)) (.cons (.c (.int 3)) (.cons (.c (.int 0)) (.cons (.c (.int 1)) .nil))))) (.cons (.tup (.cons (.c (.int 3)) (.cons (.c (.int 2)) (.cons (.c (.int 1)) (.cons (.c (.int 0)) .nil))))) (.cons (.tup (.cons (.c (.int 1)) (.cons (.c (.int 0)) (.cons (.c (.int 3)) (.cons (.c (.int 2)) .nil))))) .nil))))) .nil))) .nil))) .nil) (.cons (.ite (.cmp .Eq (.v 1) (.c (.int 5))) (.cons (.asg (.nm 2) (.al (.lst (.cons (.bi .tup (.cons (.lc (.bi .tup (.cons (.lc (.bin .Mod (.bi .int (.cons (.bin .Add (.bin .Mult (.c (.int 2)) (.v 7)) (.v 10)) .nil)) (.c (.int 5))) (.nm 10) (.rg1 (.c (.int 5))) .nil [10]) .nil)) (.nm 7) (.rg1 (.c (.int 5))) .nil [7]) .nil)) .nil)))) (.cons (.exp (.meth .append (.v 2) (.cons (.bi .tup (.cons (.lc (.bi .tup (.cons (.lc (.bin .Mod (.bi .int (.cons (.bin .Add (.bin .Mult (.c (.int 3)) (.v 7)) (.v 10)) .nil)) (.c (.int 5))) (.nm 10) (.rg1 (.c (.int 5))) .nil [10]) .nil)) (.nm 7) (.rg1 (.c (.int 5))) .nil [7]) .nil)) .nil))) .nil)) .nil) (.cons (.ite (.cmp .Lt (.v 1) (.c (.int 3))) (.cons (.ret (.bin .Mult (.tup (.cons (.bin .Mult (.tup (.cons (.bin .Sub (.call 20 (.cons (.v 0) (.cons (.c (.int 99)) .nil)) .nil [0, 1]) (.c (.int 49))) .nil)) (.v 1)) .nil)) (.v 1))) .nil) .nil) (.cons (.asg (.nm 3) (.bin .Mult (.tup (.cons (.bin .Mult (.tup (.cons (.bin .Sub (.call 20 (.cons (.v 0) (.cons (.c (.int 19)) .nil)) .nil [0, 1]) (.c (.int 9))) .nil)) (.v 1)) .nil)) (.v 1))) (.cons (.for (.nm 4) (.rg1 (.bin .Add (.c (.int 1)) (.call 20 (.cons (.v 0) (.cons (.c (.int 3)) .nil)) .nil [0, 1]))) (.cons (.asg (.tp (.cons (.nm 5) (.cons (.nm 6) .nil))) (.tup (.cons (.call 25 (.cons (.call 21 (.cons (.v 0) (.cons (.ite (.cmp .Eq (.v 1) (.c (.int 3))) (.sl false true (.v 2) .none (.c (.int 1))) (.v 2)) .nil)) .nil [0, 1]) (.cons (.call 20 (.cons (.v 0) (.cons (.c (.int 8)) .nil)) .nil [0, 1]) .nil)) .nil [0, 1]) (.cons (.bin .Sub (.call 20 (.cons (.v 0) (.cons (.c (.int 9)) .nil)) .nil [0, 1]) (.c (.int 4))) .nil)))) (.cons (.asg (.nm 3) (.bi .tup (.cons (.lc (.bi .tup (.cons (.lc (.bin .Add (.v 11) (.bin .Mult (.v 6) (.v 12))) (.tp (.cons (.nm 11) (.cons (.nm 12) .nil))) (.zp (.v 8) (.v 9)) .nil [11, 12]) .nil)) (.tp (.cons (.nm 8) (.cons (.nm 9) .nil))) (.zp (.v 3) (.v 5)) .nil [8, 9]) .nil))) .nil))) (.cons (.ret (.v 3)) .nil)))))))
def f__law_even_of : FD := { name := ⟨#[95, 108, 97, 119, 95, 101, 118, 101, 110, 95, 111, 102]⟩, ps := [⟨#[112, 111, 116]⟩, ⟨#[110]⟩], N := [⟨#[112, 111, 116]⟩, ⟨#[110]⟩, ⟨#[98, 97, 115, 101]⟩, ⟨#[102, 111, 117, 110, 100]⟩, ⟨#[116, 117, 114, 110]⟩, ⟨#[111, 119, 110]⟩, ⟨#[102, 97, 99, 116, 111, 114]⟩, ⟨#[105]⟩, ⟨#[114, 111, 119]⟩, ⟨#[109, 111, 114, 101]⟩, ⟨#[106]⟩, ⟨#[97]⟩, ⟨#[98]⟩], body := b__law_even_of, fz := true }
def b__law_agree : Ss := (.cons (.ite (.cmp .Eq (.v 0) (.v 1)) (.cons (.ret (.c .non)) .nil) .nil) (.cons (.ite (.cmp .NotEq (.bi .len (.cons (.v 0) .nil)) (.bi .len (.cons (.v 1) .nil))) (.cons (.ret (.neg (.c (.int 1)))) .nil) .nil) (.cons (.asg (.tp (.cons (.nm 3) (.cons (.nm 4) .nil))) (.tup (.cons (.c (.int 0)) (.cons (.lst (.cons (.bi .lst (.cons (.v 0) .nil)) (.cons (.bi .lst (.cons (.v 1) .nil)) .nil))) .nil)))) (.cons (.for (.nm 2) (.rg1 (.bin .Add (.bi .len (.cons (.v 0) .nil)) (.c (.int 1)))) (.cons (.ite (.cmp .NotEq (.bi .sum (.cons (.ix (.v 4) (.c (.int 0))) .nil)) (.bi .sum (.cons (.ix (.v 4) (.c (.int 1))) .nil))) (.cons (.ret (.v 3)) .nil) .nil) (.cons (.asg (.nm 3) (.bin .Add (.v 3) (.c (.int 1)))) (.cons (.asg (.nm 4) (.lst (.cons (.lc (.bin .Mult (.v 5) (.v 6)) (.tp (.cons (.nm 5) (.cons (.nm 6) .nil))) (.zp (.ix (.v 4) (.c (.int 0))) (.v 0)) .nil [5, 6]) (.cons (.lc (.bin .Mult (.v 5) (.v 6)) (.tp (.cons (.nm 5) (.cons (.nm 6) .nil))) (.zp (.ix (.v 4) (.c (.int 1))) (.v 1)) .nil [5, 6]) .nil)))) .nil)))) (.cons (.ret (.v 3)) .nil)))))
def f__law_agree : FD := { name := ⟨#[95, 108, 97, 119, 95, 97, 103, 114, 101, 101]⟩, ps := [⟨#[111, 110, 101]⟩, ⟨#[111, 116, 104, 101, 114]⟩], N := [⟨#[111, 110, 101]⟩, ⟨#[111, 116, 104, 101, 114]⟩, ⟨#[116, 117, 114, 110]⟩, ⟨#[107]⟩, ⟨#[114, 111, 119, 115]⟩, ⟨#[97]⟩, ⟨#[120]⟩], body := b__law_agree, fz := true }
def b_law : Ss := (.cons (.asg (.nm 1) (.call 19 (.cons (.v 0) .nil) .nil [0])) (.cons (.asg (.nm 2) (.bin .Add (.c (.int 3)) (.call 20 (.cons (.v 1) (.cons (.c (.int 3)) .nil)) .nil [0, 1]))) (.cons (.asg (.nm 3) (.call 21 (.cons (.v 1) (.cons (.lst (.cons (.call 26 (.cons (.v 1) (.cons (.v 2) .nil)) .nil [0, 1]) (.cons (.call 26 (.cons (.v 1) (.cons (.v 2) .nil)) .nil [0, 1]) (.cons (.call 16 .nil .nil []) (.cons (.call 18 .nil .nil []) .nil))))) .nil)) .nil [0, 1])) (.cons (.asg (.nm 3) (.call 25 (.cons (.v 3) (.cons (.call 20 (.cons (.v 1) (.cons (.c (.int 8)) .nil)) .nil [0, 1]) .nil)) .nil [0, 1])) (.cons (.asg (.tp (.cons (.nm 2) (.cons (.nm 12) .nil))) (.tup (.cons (.bi .len (.cons (.v 3) .nil)) (.cons (.call 23 (.cons (.bi .len (.cons (.v 3) .nil)) .nil) .nil [0]) .nil)))) (.cons (.asg (.tp (.cons (.nm 13) (.cons (.nm 14) .nil))) (.sl false true (.call 22 (.cons (.v 1) (.cons (.lc (.bi .tup (.cons (.bi .srt (.cons (.lc (.ix (.ix (.v 3) (.v 23)) (.v 24)) (.tp (.cons (.nm 23) (.cons (.nm 24) .nil))) (.e (.v 21)) .nil [23, 24]) .nil)) .nil)) (.nm 21) (.e (.v 12)) .nil [21]) .nil)) .nil [0, 1]) .none (.c (.int 2)))) (.cons (.asg (.tp (.cons (.nm 15) (.cons (.nm 9) .nil))) (.tup (.cons (.bi .repr (.cons (.lst (.cons (.v 3) (.cons (.v 13) (.cons (.v 14) .nil)))) .nil)) (.cons (.call 27 (.cons (.v 13) (.cons (.v 14) .nil)) .nil [0, 1]) .nil)))) (.cons (.ite (.cmp .NotEq (.bi .repr (.cons (.lst (.cons (.call 3 (.cons (.v 13) (.cons (.v 14) .nil)) .nil [0, 1]) (.cons (.call 3 .nil (.cons (.v 14) (.cons (.v 13) .nil)) [1, 0]) .nil))) .nil)) (.bi .repr (.cons (.lst (.cons (.v 9) (.cons (.v 9) .nil))) .nil))) (.cons (.ret (.c (.bl false))) .nil) .nil) (.cons (.ite (.or (.and (.cmp .IsNot (.v 9) (.c .non)) (.cmp .Lt (.v 9) (.ite (.cmp .Gt (.v 2) (.c (.int 7))) (.c (.int 2)) (.c (.int 1))))) (.cmp .IsNot (.call 1 (.cons (.v 13) .nil) .nil [0]) (.c .non))) (.cons (.ret (.c (.bl false))) .nil) .nil) (.cons (.ite (.cmp .NotEq (.call 5 (.cons (.v 13) (.cons (.v 14) .nil)) .nil [0, 1]) (.ite (.cmp .Is (.v 9) (.c .non)) (.c .non) (.bin .Add (.v 9) (.c (.int 1))))) (.cons (.ret (.c (.bl false))) .nil) .nil) (.cons (.ite (.cmp .NotEq (.bi .repr (.cons (.call 7 (.cons (.v 13) (.cons (.v 14) .nil)) .nil [0, 1]) .nil)) (.bi .repr (.cons (.cmp .Eq (.v 9) (.bin .Sub (.v 2) (.c (.int 1)))) .nil))) (.cons (.ret (.c (.bl false))) .nil) .nil) (.cons (.asg (.nm 4) (.call 24 (.cons (.v 3) .nil) .nil [0])) (.cons (.ite (.cmp .NotEq (.bi .repr (.cons (.call 10 (.cons (.v 3) .nil) .nil [0]) .nil)) (.bi .repr (.cons (.tup (.cons (.bi .tup (.cons (.sl false true (.v 4) .none (.v 2)) .nil)) (.cons (.bi .tup (.cons (.sl true true (.v 4) (.v 2) (.bin .Mult (.c (.int 2)) (.v 2))) .nil)) (.cons (.bi .tup (.cons (.sl true false (.v 4) (.bin .Mult (.c (.int 2)) (.v 2)) .none) .nil)) .nil)))) .nil))) (.cons (.ret (.c (.bl false))) .nil) .nil) (.cons (.ite (.cmp .NotEq (.call 2 (.cons (.v 13) (.cons (.c (.int 2)) .nil)) .nil [0, 1]) (.tup (.cons (.v 2) (.cons (.ix (.v 4) (.c (.int 0))) (.cons (.bi .sum (.cons (.lc (.bin .Mult (.v 22) (.v 22)) (.nm 22) (.e (.v 13)) .nil [22]) .nil)) .nil))))) (.cons (.ret (.c (.bl false))) .nil) .nil) (.cons (.ite (.and (.cmp .Is (.call 15 (.cons (.v 3) .nil) .nil [0]) (.c (.bl true))) (.cmp .NotEq (.ix (.call 24 (.cons (.call 14 (.cons (.v 3) .nil) .nil [0]) .nil) .nil [0]) (.c (.int 0))) (.ix (.call 2 (.cons (.v 14) (.cons (.c (.int 2)) .nil)) .nil [0, 1]) (.c (.int 2))))) (.cons (.ret (.c (.bl false))) .nil) .nil) (.cons (.asg (.nm 5) (.call 21 (.cons (.v 1) (.cons (.lst (.cons (.c (.int 3)) (.cons (.c (.int 15)) .nil))) .nil)) .nil [0, 1])) (.cons (.asg (.nm 6) (.bi .tup (.cons (.lc (.bin .Sub (.call 20 (.cons (.v 1) (.cons (.bin .Add (.bin .Mult (.c (.int 2)) (.v 5)) (.c (.int 1))) .nil)) .nil [0, 1]) (.v 5)) (.nm 10) (.rg1 (.c (.int 4))) .nil [10]) .nil))) (.cons (.asg (.nm 7) (.bi .tup (.cons (.lc (.bin .Sub (.call 20 (.cons (.v 1) (.cons (.bin .Add (.bin .Mult (.c (.int 2)) (.v 5)) (.c (.int 1))) .nil)) .nil [0, 1]) (.v 5)) (.nm 10) (.rg1 (.c (.int 4))) .nil [10]) .nil))) (.cons (.asg (.nm 8) (.lc (.bi .tup (.cons (.bi .srt (.cons (.lc (.bin .Mult (.v 22) (.v 22)) (.nm 22) (.e (.v 20)) .nil [22]) .nil)) .nil)) (.nm 20) (.e (.call 12 (.cons (.v 6) (.cons (.v 7) .nil)) .nil [0, 1])) .nil [20])) (.cons (.asg (.tp (.cons (.nm 16) (.cons (.nm 17) .nil))) (.tup (.cons (.ix (.v 8) (.call 20 (.cons (.v 1) (.cons (.c (.int 4)) .nil)) .nil [0, 1])) (.cons (.ix (.v 8) (.call 20 (.cons (.v 1) (.cons (.c (.int 4)) .nil)) .nil [0, 1])) .nil)))) (.cons (.asg (.nm 9) (.call 27 (.cons (.v 16) (.cons (.v 17) .nil)) .nil [0, 1])) (.cons (.ite (.or (.cmp .NotEq (.call 3 (.cons (.v 16) (.cons (.v 17) .nil)) .nil [0, 1]) (.v 9)) (.or (.and (.cmp .IsNot (.v 9) (.c .non)) (.cmp .Lt (.v 9) (.c (.int 1)))) (.cmp .NotEq (.bi .sum (.cons (.v 16) .nil)) (.bin .Mult (.call 13 (.cons (.v 6) .nil) .nil [0]) (.call 13 .nil (.cons (.v 7) .nil) [0]))))) (.cons (.ret (.c (.bl false))) .nil) .nil) (.cons (.asg (.nm 10) (.call 20 (.cons (.v 1) (.cons (.c (.int 5)) .nil)) .nil [0, 1])) (.cons (.asg (.tp (.cons (.nm 18) (.cons (.nm 19) .nil))) (.tup (.cons (.call 9 (.cons (.c (.int 2)) (.cons (.v 10) .nil)) .nil [0, 1]) (.cons (.call 9 (.cons (.c (.int 2)) (.cons (.bin .Add (.v 10) (.c (.int 1))) .nil)) .nil [0, 1]) .nil)))) (.cons (.asg (.nm 11) (.bin .Mult (.c (.int 2)) (.bi .len (.cons (.ix (.v 18) (.c (.int 0))) .nil)))) (.cons (.ite (.cmp .NotEq (.bi .repr (.cons (.call 4 (.cons (.ix (.v 18) (.c (.int 0))) (.cons (.ix (.v 18) (.c (.int 1))) (.cons (.v 11) .nil))) .nil [0, 1, 2]) .nil)) (.bi .repr (.cons (.tup (.cons (.ix (.v 19) (.c (.int 0))) (.cons (.ix (.v 19) (.c (.int 1))) .nil))) .nil))) (.cons (.ret (.c (.bl false))) .nil) .nil) (.cons (.ite (.or (.cmp .NotEq (.call 3 (.cons (.ix (.v 18) (.c (.int 0))) (.cons (.ix (.v 18) (.c (.int 1))) .nil)) .nil [0, 1]) (.v 10)) (.cmp .NotEq (.call 3 (.cons (.ix (.v 19) (.c (.int 0))) (.cons (.ix (.v 19) (.c (.int 1))) .nil)) .nil [0, 1]) (.bin .Add (.v 10) (.c (.int 1))))) (.cons (.ret (.c (.bl false))) .nil) .nil) (.cons (.ret (.cmp .Eq (.bi .repr (.cons (.lst (.cons (.v 3) (.cons (.v 13) (.cons (.v 14) .nil)))) .nil)) (.v 15))) .nil))))))))))))))))))))))))))))
def f_law : FD := { name := ⟨#[108, 97, 119]⟩, ps := [⟨#[115, 99, 114, 105, 112, 116]⟩], N := [⟨#[115, 99, 114, 105, 112, 116]⟩, ⟨#[112, 111, 116]⟩, ⟨#[110]⟩, ⟨#[115, 113, 117, 97, 114, 101]⟩, ⟨#[115, 117, 109, 115]⟩, ⟨#[116, 111, 112]⟩, ⟨#[102, 105, 114, 115, 116]⟩, ⟨#[115, 101, 99, 111, 110, 100]⟩, ⟨#[114, 111, 119, 115]⟩, ⟨#[100, 117, 101]⟩, ⟨#[107]⟩, ⟨#[115, 105, 122, 101]⟩, ⟨#[108, 105, 110, 101, 115]⟩, ⟨#[111, 110, 101]⟩, ⟨#[111, 116, 104, 101, 114]⟩, ⟨#[107, 101, 112, 116]⟩, ⟨#[97]⟩, ⟨#[98]⟩, ⟨#[108, 111, 116, 115]⟩, ⟨#[109, 111, 114, 101]⟩, ⟨#[114, 111, 119]⟩, ⟨#[108, 105, 110, 101]⟩, ⟨#[120]⟩, ⟨#[105]⟩, ⟨#[106]⟩], body := b_law, fz := true }
def fds : List FD := [f_is_integer, f_bag_error, f_power_sums, f_agree_to, f_next_bags, f_one_order, f_product_row, f_is_far_pair, f_digit_place, f_digit_lots, f_line_sums, f_is_even_square, f_four_rows, f_four_sum, f_squared_square, f_is_twice_even, f_eight_square, f_nine_cell, f_nine_square, f__law_pot, f__law_of, f__law_one, f__law_order, f__law_lines, f__law_line_sums, f__law_turned, f__law_even_of, f__law_agree, f_law]
def cn : List Str := [⟨#[77, 65, 88, 95, 66, 65, 71]⟩, ⟨#[77, 65, 88, 95, 66, 65, 71, 71, 69, 68]⟩, ⟨#[77, 65, 88, 95, 68, 73, 71, 73, 84, 69, 68]⟩]
def topS (i : Nat) : Stmt := PySem.Challenge.pw_equalsums_k96_whole_bags_and_squares.main.body.getD i (.Pass ⟨0, 0, 0, 0⟩)
def sts : List Stmt := [topS 4, topS 5, topS 6, topS 7, topS 8, topS 13, topS 14, topS 15, topS 17, topS 18, topS 20, topS 21, topS 23, topS 24, topS 26, topS 27, topS 28, topS 29, topS 30, topS 32, topS 33, topS 34, topS 35, topS 36, topS 37, topS 38, topS 39, topS 40, topS 41]
end K96
end

section
set_option Elab.async false
set_option maxRecDepth 100000
set_option maxHeartbeats 0
namespace K96
open MP PySem
theorem chk : (fds.zip sts).all (fun p => chkF cn fds p.1 p.2) = true := by decide +kernel
end K96
end

section
set_option linter.all false
namespace K96
/-! ## sums of powers, and the coefficients of the product of (1 - a t) -/
def pw (l : List Int) (k : Nat) : Int := (l.map fun x => x ^ k).sum
def cf : List Int → Nat → Int
  | [], 0 => 1
  | [], _ + 1 => 0
  | _ :: _, 0 => 1
  | a :: l, k + 1 => cf l (k + 1) - a * cf l k
theorem cf_zero : ∀ l, cf l 0 = 1
  | [] => rfl
  | _ :: _ => rfl
theorem pw_nil (k : Nat) : pw [] k = 0 := rfl
theorem pw_cons (a : Int) (l : List Int) (k : Nat) : pw (a :: l) k = a ^ k + pw l k := by unfold pw; rw [List.map_cons, List.sum_cons]
/-- the sum of f (k - i) * g i for i from 0 on, below k + 1 -/
def cv (f g : Nat → Int) : Nat → Nat → Int
  | _, 0 => 0
  | k, i + 1 => cv f g k i + f (k - i) * g i
-- sum over i < m of f (k - i) * g i
theorem cv_congr {f f' g g' : Nat → Int} {k : Nat} : ∀ {m : Nat}, m ≤ k + 1 → (∀ i, i < m → f (k - i) = f' (k - i)) → (∀ i, i < m → g i = g' i) → cv f g k m = cv f' g' k m
  | 0, _, _, _ => rfl
  | m + 1, h, a, b => by
    show cv f g k m + f (k - m) * g m = cv f' g' k m + f' (k - m) * g' m
    rw [cv_congr (m := m) (by omega) (fun i hi => a i (by omega)) (fun i hi => b i (by omega)), a m (by omega), b m (by omega)]
theorem cv_addg (f g g' : Nat → Int) (k : Nat) : ∀ m, cv f (fun i => g i + g' i) k m = cv f g k m + cv f g' k m
  | 0 => rfl
  | m + 1 => by
    show cv f (fun i => g i + g' i) k m + f (k - m) * (g m + g' m) = cv f g k m + f (k - m) * g m + (cv f g' k m + f (k - m) * g' m)
    rw [cv_addg f g g' k m]; grind
/-- the convolution for the list with one more, at k + 1, over i < m ≤ k + 1 (the terms with k + 1 - i ≥ 1) -/
theorem cv_cons (a : Int) (l : List Int) (g : Nat → Int) (k : Nat) : ∀ m, m ≤ k + 1 → cv (cf (a :: l)) g (k + 1) m = cv (cf l) g (k + 1) m - a * cv (cf l) g k m
  | 0, _ => by show (0 : Int) = 0 - a * 0; omega
  | m + 1, h => by
    show cv (cf (a :: l)) g (k + 1) m + cf (a :: l) (k + 1 - m) * g m = cv (cf l) g (k + 1) m + cf l (k + 1 - m) * g m - a * (cv (cf l) g k m + cf l (k - m) * g m)
    rw [cv_cons a l g k m (by omega), show k + 1 - m = (k - m) + 1 by omega]
    show _ + (cf l (k - m + 1) - a * cf l (k - m)) * g m = _
    grind
/-- sums over the powers of a, for the list with one more: it telescopes -/
theorem cv_pow (a : Int) (l : List Int) (k : Nat) : ∀ m, m ≤ k → cv (cf (a :: l)) (fun i => a ^ (i + 1)) k m = a * cf l k - a ^ (m + 1) * cf l (k - m)
  | 0, _ => by show (0 : Int) = _; grind
  | m + 1, h => by
    show cv (cf (a :: l)) (fun i => a ^ (i + 1)) k m + cf (a :: l) (k - m) * a ^ (m + 1) = _
    rw [cv_pow a l k m (by omega), show k - m = (k - (m + 1)) + 1 by omega]
    show _ + (cf l (k - (m + 1) + 1) - a * cf l (k - (m + 1))) * a ^ (m + 1) = _
    rw [show a ^ (m + 1 + 1) = a ^ (m + 1) * a from Int.pow_succ a (m + 1)]
    grind
theorem cv_nil (g : Nat → Int) (k : Nat) : ∀ m, m ≤ k → cv (cf []) g k m = 0
  | 0, _ => rfl
  | m + 1, h => by
    show cv (cf []) g k m + cf [] (k - m) * g m = 0
    rw [cv_nil g k m (by omega), show k - m = (k - m - 1) + 1 by omega]
    show (0 : Int) + 0 * g m = 0
    omega
/-- Newton: (k + 1) c_(k+1) + the sum over i ≤ k of c_(k-i) p_(i+1) is 0 -/
theorem newton : ∀ (l : List Int) (k : Nat), ((k : Int) + 1) * cf l (k + 1) + cv (cf l) (fun i => pw l (i + 1)) k (k + 1) = 0
  | [], k => by
    have : ∀ m, cv (cf []) (fun i => pw [] (i + 1)) k m = 0 := fun m => by
      induction m with
      | zero => rfl
      | succ m ih => show cv _ _ k m + cf [] (k - m) * 0 = 0; rw [ih]; omega
    rw [this]
    show ((k : Int) + 1) * 0 + 0 = 0
    omega
  | a :: l, k => by
    have e1 : cv (cf (a :: l)) (fun i => pw (a :: l) (i + 1)) k (k + 1) = cv (cf (a :: l)) (fun i => a ^ (i + 1)) k (k + 1) + cv (cf (a :: l)) (fun i => pw l (i + 1)) k (k + 1) := by
      rw [← cv_addg]
      exact cv_congr (by omega) (fun _ _ => rfl) (fun i _ => pw_cons a l (i + 1))
    have e2 : cv (cf (a :: l)) (fun i => a ^ (i + 1)) k (k + 1) = a * cf l k := by
      show cv _ _ k k + cf (a :: l) (k - k) * a ^ (k + 1) = _
      rw [cv_pow a l k k (by omega), Nat.sub_self, cf_zero, cf_zero]; omega
    have ih := newton l k
    cases k with
    | zero =>
      rw [e1, e2]
      have ih' : (((0 : Nat) : Int) + 1) * cf l 1 + (0 + cf l (0 - 0) * pw l (0 + 1)) = 0 := ih
      show (((0 : Nat) : Int) + 1) * (cf l 1 - a * cf l 0) + (a * cf l 0 + (0 + 1 * pw l (0 + 1))) = 0
      rw [Nat.sub_self, cf_zero] at ih'
      rw [cf_zero]
      grind
    | succ k =>
      have ih' := newton l k
      have e3 : cv (cf (a :: l)) (fun i => pw l (i + 1)) (k + 1) (k + 1 + 1) = cv (cf l) (fun i => pw l (i + 1)) (k + 1) (k + 1 + 1) - a * cv (cf l) (fun i => pw l (i + 1)) k (k + 1) := by
        show cv _ _ (k + 1) (k + 1) + cf (a :: l) (k + 1 - (k + 1)) * _ = cv _ _ (k + 1) (k + 1) + cf l (k + 1 - (k + 1)) * _ - _
        rw [cv_cons a l _ k (k + 1) (by omega), Nat.sub_self, cf_zero, cf_zero]; grind
      rw [e1, e2, e3]
      show (((k + 1 : Nat) : Int) + 1) * (cf l (k + 1 + 1) - a * cf l (k + 1)) + _ = 0
      have : (((k + 1 : Nat) : Int)) = (k : Int) + 1 := by omega
      rw [this] at ih ⊢
      grind
/-! ## which sums of powers agree -/
/-- the sums of powers agree from 1 to m exactly if the coefficients do -/
theorem agree_cf {l l' : List Int} : ∀ m, (∀ k, k < m → pw l (k + 1) = pw l' (k + 1)) ↔ (∀ k, k < m → cf l (k + 1) = cf l' (k + 1))
  | 0 => ⟨fun _ k h => absurd h (by omega), fun _ k h => absurd h (by omega)⟩
  | m + 1 => by
    have ih := agree_cf (l := l) (l' := l') m
    have step : (∀ k, k < m → pw l (k + 1) = pw l' (k + 1)) → (∀ k, k < m → cf l (k + 1) = cf l' (k + 1)) → (((m : Int) + 1) * cf l (m + 1) + pw l (m + 1) = ((m : Int) + 1) * cf l' (m + 1) + pw l' (m + 1)) := fun a b => by
      have n1 := newton l m
      have n2 := newton l' m
      have c : cv (cf l) (fun i => pw l (i + 1)) m m = cv (cf l') (fun i => pw l' (i + 1)) m m := by
        refine cv_congr (by omega) (fun i hi => ?_) a
        rw [show m - i = (m - i - 1) + 1 by omega]
        exact b _ (by omega)
      have u1 : cv (cf l) (fun i => pw l (i + 1)) m (m + 1) = cv (cf l) (fun i => pw l (i + 1)) m m + cf l (m - m) * pw l (m + 1) := rfl
      have u2 : cv (cf l') (fun i => pw l' (i + 1)) m (m + 1) = cv (cf l') (fun i => pw l' (i + 1)) m m + cf l' (m - m) * pw l' (m + 1) := rfl
      rw [Nat.sub_self, cf_zero] at u1 u2
      omega
    constructor
    · intro h k hk
      have a : ∀ k, k < m → pw l (k + 1) = pw l' (k + 1) := fun k hk => h k (by omega)
      have b := ih.mp a
      by_cases e : k = m
      · subst e
        have s := step a b
        have := h k (by omega)
        have d : ((k : Int) + 1) * (cf l (k + 1) - cf l' (k + 1)) = 0 := by rw [Int.mul_sub]; omega
        rcases Int.mul_eq_zero.mp d with h1 | h1 <;> omega
      · exact b k (by omega)
    · intro h k hk
      have b : ∀ k, k < m → cf l (k + 1) = cf l' (k + 1) := fun k hk => h k (by omega)
      have a := ih.mpr b
      by_cases e : k = m
      · subst e
        have s := step a b
        have := h k (by omega)
        rw [this] at s
        omega
      · exact a k (by omega)
theorem cf_long : ∀ (l : List Int) (k : Nat), l.length < k → cf l k = 0
  | [], k + 1, _ => rfl
  | [], 0, h => absurd h (by simp)
  | a :: l, 0, h => absurd h (by simp)
  | a :: l, k + 1, h => by
    have h' : l.length < k := by simpa using h
    show cf l (k + 1) - a * cf l k = 0
    rw [cf_long l (k + 1) (by omega), cf_long l k h']; omega
theorem cf_swap (a b : Int) (l : List Int) : ∀ k, cf (a :: b :: l) k = cf (b :: a :: l) k
  | 0 => rfl
  | 1 => by
    show cf (b :: l) 1 - a * cf (b :: l) 0 = cf (a :: l) 1 - b * cf (a :: l) 0
    show cf l 1 - b * cf l 0 - a * 1 = cf l 1 - a * cf l 0 - b * 1
    rw [cf_zero]; omega
  | k + 2 => by
    show cf l (k + 2) - b * cf l (k + 1) - a * (cf l (k + 1) - b * cf l k) = cf l (k + 2) - a * cf l (k + 1) - b * (cf l (k + 1) - a * cf l k)
    grind
theorem cf_perm {l m : List Int} (p : l.Perm m) : ∀ k, cf l k = cf m k := by
  induction p with
  | nil => exact fun _ => rfl
  | @cons x l l' _ ih =>
    intro k
    cases k with
    | zero => rfl
    | succ k => show cf l (k + 1) - x * cf l k = cf l' (k + 1) - x * cf l' k; rw [ih, ih]
  | swap x y l => exact cf_swap y x l
  | trans _ _ h1 h2 => exact fun k => (h1 k).trans (h2 k)
/-- Horner's rule over the coefficients -/
def hq (l : List Int) (x : Int) : Nat → Int
  | 0 => 1
  | k + 1 => hq l x k * x + cf l (k + 1)
theorem hq_cons (a : Int) (l : List Int) (x : Int) : ∀ k, hq (a :: l) x (k + 1) = hq l x (k + 1) - a * hq l x k
  | 0 => by
    show 1 * x + (cf l 1 - a * cf l 0) = (1 * x + cf l 1) - a * 1
    rw [cf_zero]; omega
  | k + 1 => by
    show hq (a :: l) x (k + 1) * x + (cf l (k + 2) - a * cf l (k + 1)) = hq l x (k + 1) * x + cf l (k + 2) - a * (hq l x k * x + cf l (k + 1))
    rw [hq_cons a l x k]; grind
theorem hq_prod : ∀ (l : List Int) (x : Int), hq l x l.length = (l.map fun a => x - a).foldr (· * ·) 1
  | [], _ => rfl
  | a :: l, x => by
    rw [List.length_cons, hq_cons, List.map_cons, List.foldr_cons, ← hq_prod l x]
    show hq l x l.length * x + cf l (l.length + 1) - a * hq l x l.length = _
    rw [cf_long l _ (by omega)]; grind
theorem prod_zero {x : Int} : ∀ {l : List Int}, (l.map fun a => x - a).foldr (· * ·) 1 = 0 → x ∈ l
  | [], h => by simp at h
  | a :: l, h => by
    rw [List.map_cons, List.foldr_cons] at h
    rcases Int.mul_eq_zero.mp h with h1 | h1
    · exact List.mem_cons.mpr (.inl (by omega))
    · exact List.mem_cons.mpr (.inr (prod_zero h1))
theorem zero_prod {x : Int} : ∀ {l : List Int}, x ∈ l → (l.map fun a => x - a).foldr (· * ·) 1 = 0
  | a :: l, h => by
    rw [List.map_cons, List.foldr_cons]
    rcases List.mem_cons.mp h with rfl | h1
    · rw [Int.sub_self, Int.zero_mul]
    · rw [zero_prod h1, Int.mul_zero]
theorem hq_congr {l m : List Int} (e : ∀ k, cf l k = cf m k) (x : Int) : ∀ k, hq l x k = hq m x k
  | 0 => rfl
  | k + 1 => by show hq l x k * x + cf l (k + 1) = hq m x k * x + cf m (k + 1); rw [hq_congr e x k, e]
/-- the coefficients tell the items -/
theorem perm_of_cf : ∀ (m l : List Int), l.length = m.length → (∀ k, cf l k = cf m k) → l.Perm m
  | [], l, h, _ => by rw [List.eq_nil_of_length_eq_zero h]
  | b :: m, l, h, e => by
    have hb : b ∈ l := prod_zero (by
      rw [← hq_prod, h, hq_congr e, hq_prod]
      exact zero_prod List.mem_cons_self)
    have p : l.Perm (b :: l.erase b) := List.perm_cons_erase hb
    refine p.trans (List.Perm.cons b (perm_of_cf m (l.erase b) ?_ ?_))
    · have := p.length_eq; rw [List.length_cons] at this; rw [List.length_cons] at h; omega
    · intro k
      induction k with
      | zero => rw [cf_zero, cf_zero]
      | succ k ih =>
        have := e (k + 1)
        rw [cf_perm p] at this
        have h1 : cf (l.erase b) (k + 1) - b * cf (l.erase b) k = cf m (k + 1) - b * cf m k := this
        rw [ih] at h1
        omega
/-- sums of powers to the length tell the items -/
theorem perm_of_pw {l m : List Int} (h : l.length = m.length) (e : ∀ k, k < l.length → pw l (k + 1) = pw m (k + 1)) : l.Perm m := by
  refine perm_of_cf m l h fun k => ?_
  cases k with
  | zero => rw [cf_zero, cf_zero]
  | succ k =>
    by_cases hk : k < l.length
    · exact (agree_cf l.length).mp e k hk
    · rw [cf_long l (k + 1) (by omega), cf_long m (k + 1) (by omega)]
/-! ## sums of whole ways -/
inductive Mon : Nat → (Int → Int) → Prop where
  | one : Mon 0 fun _ => 1
  | mul {k : Nat} {f : Int → Int} (d : Int) (m : Mon k f) : Mon (k + 1) fun x => (x - d) * f x
def sf (f : Int → Int) (l : List Int) : Int := (l.map f).sum
theorem sf_cons (f : Int → Int) (a : Int) (l : List Int) : sf f (a :: l) = f a + sf f l := by unfold sf; rw [List.map_cons, List.sum_cons]
theorem sf_sub (f g : Int → Int) : ∀ l, sf (fun x => f x - g x) l = sf f l - sf g l
  | [] => rfl
  | a :: l => by rw [sf_cons, sf_cons, sf_cons, sf_sub f g l]; omega
theorem sf_mul (c : Int) (f : Int → Int) : ∀ l, sf (fun x => c * f x) l = c * sf f l
  | [] => by show (0 : Int) = c * 0; omega
  | a :: l => by rw [sf_cons, sf_cons, sf_mul c f l]; grind
theorem sf_congr {f g : Int → Int} (h : ∀ x, f x = g x) (l : List Int) : sf f l = sf g l := by rw [show f = g from funext h]
theorem mon_diff {l m : List Int} {k : Nat} {f : Int → Int} (M : Mon k f) : ∀ r, (∀ j, j < k + r → pw l j = pw m j) → sf (fun x => x ^ r * f x) l - sf (fun x => x ^ r * f x) m = pw l (r + k) - pw m (r + k) := by
  induction M with
  | one =>
    intro r _
    have e : ∀ l, sf (fun x => x ^ r * (fun _ => (1 : Int)) x) l = pw l r := fun l => sf_congr (fun x => Int.mul_one _) l
    rw [e, e]; rfl
  | @mul k f d M ih =>
    intro r h
    have e : ∀ l, sf (fun x => x ^ r * ((x - d) * f x)) l = sf (fun x => x ^ (r + 1) * f x) l - d * sf (fun x => x ^ r * f x) l := fun l => by
      rw [← sf_mul, ← sf_sub]
      exact sf_congr (fun x => by rw [Int.pow_succ]; grind) l
    have i1 := ih (r + 1) (fun j hj => h j (by omega))
    have i2 := ih r (fun j hj => h j (by omega))
    have p0 := h (r + k) (by omega)
    rw [e, e]
    have : sf (fun x => x ^ r * f x) l = sf (fun x => x ^ r * f x) m := by omega
    rw [this, show r + (k + 1) = r + 1 + k by omega]
    omega
/-- whole ways: how many ways to take k of m -/
def ch : Nat → Nat → Nat
  | _, 0 => 1
  | 0, _ + 1 => 0
  | m + 1, k + 1 => ch m (k + 1) + ch m k
theorem ch_zero : ∀ m, ch m 0 = 1
  | 0 => rfl
  | _ + 1 => rfl
theorem ch_step : ∀ m k, (ch m k : Int) * ((m : Int) - k) = ch m (k + 1) * ((k : Int) + 1)
  | 0, 0 => rfl
  | 0, k + 1 => by
    show ((0 : Nat) : Int) * _ = ((0 : Nat) : Int) * _
    simp
  | m + 1, 0 => by
    have this : (ch m 0 : Int) * ((m : Int) - ((0 : Nat) : Int)) = ch m 1 * (((0 : Nat) : Int) + 1) := ch_step m 0
    show ((1 : Nat) : Int) * (((m + 1 : Nat) : Int) - ((0 : Nat) : Int)) = ((ch m 1 + ch m 0 : Nat) : Int) * (((0 : Nat) : Int) + 1)
    rw [ch_zero] at this ⊢
    omega
  | m + 1, k + 1 => by
    have h1 := ch_step m (k + 1)
    have h2 := ch_step m k
    show ((ch m (k + 1) + ch m k : Nat) : Int) * (((m + 1 : Nat) : Int) - ((k + 1 : Nat) : Int)) = ((ch m (k + 1 + 1) + ch m (k + 1) : Nat) : Int) * (((k + 1 : Nat) : Int) + 1)
    rw [Int.natCast_add, Int.natCast_add, Int.natCast_add, Int.natCast_add] at *
    grind
theorem ch_div (m k : Nat) : (ch m k : Int) * ((m : Int) - k) / ((k : Int) + 1) = ch m (k + 1) := by
  rw [ch_step]
  exact Int.mul_ediv_cancel _ (by omega)
def fact : Nat → Int
  | 0 => 1
  | k + 1 => ((k : Int) + 1) * fact k
theorem fact_pos : ∀ k, 0 < fact k
  | 0 => by decide
  | k + 1 => Int.mul_pos (by omega) (fact_pos k)
/-- the falling product over x - d -/
def ff (d : Int) : Nat → Int → Int
  | 0, _ => 1
  | k + 1, x => (x - (d + k)) * ff d k x
theorem ff_mon (d : Int) : ∀ k, Mon k (ff d k)
  | 0 => Mon.one
  | k + 1 => Mon.mul (d + k) (ff_mon d k)
theorem ff_ch (d : Int) (m : Nat) : ∀ k, fact k * (ch m k : Int) = ff d k (d + m)
  | 0 => by rw [ch_zero]; rfl
  | k + 1 => by
    have h := ch_step m k
    have ih := ff_ch d m k
    show ((k : Int) + 1) * fact k * (ch m (k + 1) : Int) = (d + m - (d + k)) * ff d k (d + m)
    rw [← ih]
    grind
def wy (d : Int) (k : Nat) (x : Int) : Int := ch (x - d).toNat k
/-- sums of whole ways agree as long as the sums of powers, and differ where they differ -/
theorem wy_diff {l m : List Int} {d : Int} {k : Nat} (hl : ∀ x ∈ l, d ≤ x) (hm : ∀ x ∈ m, d ≤ x) (h : ∀ j, j < k → pw l j = pw m j) : fact k * (sf (wy d k) l - sf (wy d k) m) = pw l k - pw m k := by
  have e : ∀ l, (∀ x ∈ l, d ≤ x) → fact k * sf (wy d k) l = sf (ff d k) l := fun l => by
    induction l with
    | nil => intro _; show fact k * 0 = 0; omega
    | cons a l ih =>
      intro h
      rw [sf_cons, sf_cons, ← ih (fun x hx => h x (List.mem_cons_of_mem _ hx))]
      have ha := h a List.mem_cons_self
      have := ff_ch d (a - d).toNat k
      rw [show d + ((a - d).toNat : Int) = a by omega] at this
      rw [← this]
      unfold wy
      grind
  have := mon_diff (l := l) (m := m) (ff_mon d k) 0 (fun j hj => h j (by omega))
  rw [sf_congr (f := fun x => x ^ 0 * ff d k x) (g := ff d k) (fun x => by rw [Int.pow_zero, Int.one_mul]), sf_congr (f := fun x => x ^ 0 * ff d k x) (g := ff d k) (fun x => by rw [Int.pow_zero, Int.one_mul]), Nat.zero_add] at this
  rw [Int.mul_sub, e l hl, e m hm]
  exact this
/-- the product row, from low to high -/
def mulT (f : List Int) (a : Int) : List Int := List.zipWith (fun u o => u - a * o) (0 :: f) (f ++ [0])
def RC (l : List Int) : List Int := (List.range (l.length + 1)).map fun i => cf l (l.length - i)
theorem mulT_RC (a : Int) (l : List Int) : mulT (RC l) a = RC (a :: l) := by
  have len : (RC l).length = l.length + 1 := by unfold RC; rw [List.length_map, List.length_range]
  refine List.ext_getElem ?_ fun i h1 h2 => ?_
  · unfold mulT RC; simp
  have hi : i < l.length + 2 := by unfold RC at h2; simpa using h2
  have e1 : (mulT (RC l) a)[i] = (0 :: RC l)[i]'(by simp [len]; omega) - a * (RC l ++ [0])[i]'(by simp [len]; omega) := List.getElem_zipWith
  rw [e1]
  have r2 : (RC (a :: l))[i] = cf (a :: l) (l.length + 1 - i) := by unfold RC; simp
  rw [r2]
  by_cases e : i = l.length + 1
  · subst e
    have o : (RC l ++ [0])[l.length + 1]'(by simp [len]) = 0 := by rw [List.getElem_append_right (by omega)]; simp [len]
    have u : (0 :: RC l)[l.length + 1]'(by simp [len]) = cf l 0 := by rw [List.getElem_cons_succ]; unfold RC; simp
    rw [o, u, Nat.sub_self, cf_zero, cf_zero]; omega
  · have o : (RC l ++ [0])[i]'(by simp [len]; omega) = cf l (l.length - i) := by rw [List.getElem_append_left (by omega)]; unfold RC; simp
    have u : (0 :: RC l)[i]'(by simp [len]; omega) = cf l (l.length + 1 - i) := by
      cases i with
      | zero => rw [List.getElem_cons_zero, Nat.sub_zero, cf_long l _ (by omega)]
      | succ i => rw [List.getElem_cons_succ]; unfold RC; simp
    rw [o, u, show l.length + 1 - i = (l.length - i) + 1 by omega]
    rfl
theorem RC_perm {l m : List Int} (p : l.Perm m) : RC l = RC m := by
  unfold RC
  rw [p.length_eq]
  exact List.map_congr_left fun i _ => cf_perm p _
theorem prow : ∀ (l m : List Int), l.foldl mulT (RC m) = RC (l ++ m)
  | [], m => rfl
  | a :: l, m => by
    rw [List.foldl_cons, mulT_RC, prow l (a :: m)]
    exact RC_perm List.perm_middle
theorem prow1 (l : List Int) : l.foldl mulT [1] = RC l := by
  have := prow l []
  rw [List.append_nil] at this
  exact this
/-- all coefficients but the last -/
theorem far_iff {l m : List Int} (h : l.length = m.length) (h1 : 1 ≤ l.length) : (RC l).drop 1 = (RC m).drop 1 ↔ ∀ k, k < l.length - 1 → pw l (k + 1) = pw m (k + 1) := by
  rw [agree_cf]
  have len : ∀ l, (RC l).length = l.length + 1 := fun l => by unfold RC; rw [List.length_map, List.length_range]
  have at_ : ∀ (l : List Int) (i : Nat) (hi : i < l.length + 1), (RC l)[i]'(by rw [len]; exact hi) = cf l (l.length - i) := fun l i hi => by unfold RC; simp
  constructor
  · intro e k hk
    have q := congrArg (fun x => x[l.length - 1 - (k + 1)]?) e
    simp only [List.getElem?_drop] at q
    rw [List.getElem?_eq_getElem (by rw [len]; omega), List.getElem?_eq_getElem (by rw [len]; omega), at_ l _ (by omega), at_ m _ (by omega)] at q
    have q := Option.some.inj q
    rw [show l.length - (1 + (l.length - 1 - (k + 1))) = k + 1 by omega, show m.length - (1 + (l.length - 1 - (k + 1))) = k + 1 by omega] at q
    exact q
  · intro e
    refine List.ext_getElem (by rw [List.length_drop, List.length_drop, len, len, h]) fun i h2 h3 => ?_
    rw [List.length_drop, len] at h2
    rw [List.getElem_drop, List.getElem_drop, at_ l _ (by omega), at_ m _ (by omega)]
    by_cases z : 1 + i = l.length
    · rw [show l.length - (1 + i) = 0 by omega, show m.length - (1 + i) = 0 by omega, cf_zero, cf_zero]
    · have := e (l.length - (1 + i) - 1) (by omega)
      rw [show l.length - (1 + i) - 1 + 1 = l.length - (1 + i) by omega] at this
      rw [this, h]
/-- the first sum of powers at which two lists differ -/
theorem first_diff {l m : List Int} (h : l.length = m.length) (np : ¬ l.Perm m) : ∃ K, 1 ≤ K ∧ K ≤ l.length ∧ (∀ j, j < K → pw l j = pw m j) ∧ pw l K ≠ pw m K := by
  have : ∃ k, k < l.length ∧ pw l (k + 1) ≠ pw m (k + 1) := by
    refine Classical.byContradiction fun n => np (perm_of_pw h fun k hk => ?_)
    exact Classical.byContradiction fun q => n ⟨k, hk, q⟩
  obtain ⟨k, hk, q⟩ := this
  have p0 : pw l 0 = pw m 0 := by
    have : ∀ l : List Int, pw l 0 = l.length := fun l => by
      induction l with
      | nil => rfl
      | cons a l ih => rw [pw_cons, ih, List.length_cons]; simp; omega
    rw [this, this, h]
  have : ∀ B, (∃ j, j ≤ B ∧ pw l j ≠ pw m j) → ∃ K, K ≤ B ∧ (∀ j, j < K → pw l j = pw m j) ∧ pw l K ≠ pw m K := fun B => by
    induction B with
    | zero => rintro ⟨j, hj, d⟩; exact ⟨j, hj, fun i hi => absurd hi (by omega), d⟩
    | succ B ih =>
      rintro ⟨j, hj, d⟩
      by_cases g : ∃ j, j ≤ B ∧ pw l j ≠ pw m j
      · obtain ⟨K, a, b⟩ := ih g; exact ⟨K, by omega, b⟩
      · have e : j = B + 1 := by
          refine Classical.byContradiction fun ne => g ⟨j, by omega, d⟩
        subst e
        exact ⟨B + 1, hj, fun i hi => Classical.byContradiction fun ne => g ⟨i, by omega, ne⟩, d⟩
  obtain ⟨K, a, b, c⟩ := this (k + 1) ⟨k + 1, by omega, q⟩
  refine ⟨K, ?_, by omega, b, c⟩
  cases K with
  | zero => exact absurd p0 c
  | succ K => omega
end K96
end

section
set_option Elab.async false
set_option linter.all false
set_option maxRecDepth 100000
set_option maxHeartbeats 4000000
open MP PySem
namespace K96
theorem nxK {cl : Cl} {en en' : En} {h h' : Hh} {o : Out Fl} {s : S} {r : Ss} (e : dS cl cs s en h = .ok (.nx en') h') (k : dSs cl cs r en' h' = o) : dSs cl cs (.cons s r) en h = o := (seq_nx (a := dS cl cs s) (b := dSs cl cs r) e).trans k
theorem ite_k {c : Den} {a : DenS} {en : En} {h h' : Hh} {x : R} (e : c en h = .ok x h') (t : truth h' x = some false) : kIteS c a kPass en h = .ok (.nx en) h' := by
  unfold kIteS
  rw [e, ok_bind]
  show (match truth h' x with | some true => _ | some false => kPass en h' | none => _) = _
  rw [t]; rfl
theorem itt_k {c : Den} {a b : DenS} {en : En} {h h' : Hh} {x : R} {o : Out Fl} (e : c en h = .ok x h') (t : truth h' x = some true) (k : a en h' = o) : kIteS c a b en h = o := by
  unfold kIteS
  rw [e, ok_bind]
  show (match truth h' x with | some true => a en h' | some false => _ | none => _) = _
  rw [t]; exact k
theorem test_ok {c : Den} {en : En} {h h' : Hh} {x : R} {b : Bool} (e : c en h = .ok x h') (t : truth h' x = some b) : kTest c en h = .ok b h' := by
  unfold kTest
  rw [e, ok_bind]
  rw [t]; rfl
theorem while_at {test : En → Hh → Out Bool} {step : En → Hh → Out Fl} (E : Nat → En) (h : Hh) (K : Nat) (t : ∀ j, j < K → test (E j) h = .ok true h) (s : ∀ j, j < K → step (E j) h = .ok (.nx (E (j + 1))) h) (e : test (E K) h = .ok false h) :
    ∀ f i, i ≤ K → K - i < f → whileLoop test step f (E i) h = .ok (.nx (E K)) h
  | 0, i, _, hf => absurd hf (by omega)
  | f + 1, i, hi, hf => by
    unfold whileLoop
    by_cases g : i = K
    · subst g; rw [e]
    · rw [t i (by omega)]
      show (match step (E i) h with | .ok (.nx en') h' => whileLoop test step f en' h' | .ok (.rt r) h' => .ok (.rt r) h' | .er e h' => .er e h' | .no => .no) = _
      rw [s i (by omega)]
      exact while_at E h K t s e f (i + 1) (by omega) (by omega)
/-- powers of the items -/
def ps (l : List Int) (k : Nat) : List Int := l.map fun x => x ^ k
theorem ps_one : ∀ l, ps l 1 = l
  | [] => rfl
  | a :: l => by show a ^ 1 :: ps l 1 = _; rw [ps_one l]; congr 1; exact Int.pow_one a
theorem ps_step (k : Nat) : ∀ l, List.zipWith (fun a b => a * b) (ps l k) l = ps l (k + 1)
  | [] => rfl
  | a :: l => by show a ^ k * a :: List.zipWith _ (ps l k) l = a ^ (k + 1) :: ps l (k + 1); rw [ps_step k l, Int.pow_succ]
theorem ps_len (l : List Int) (k : Nat) : (ps l k).length = l.length := List.length_map ..
theorem nr_TI (k : Nat) (l : List Int) : nr (k + 2) (tupI l) = true := List.all_eq_true.mpr fun d hd => by obtain ⟨a, _, rfl⟩ := List.mem_map.mp hd; rfl
/-- what is known of two lists that differ -/
structure Df (l m : List Int) (K : Nat) : Prop where
  len : l.length = m.length
  sm : l.length < 1000
  ne : l ≠ m
  k1 : 1 ≤ K
  kn : K ≤ l.length
  eq : ∀ j, j < K → pw l j = pw m j
  df : pw l K ≠ pw m K
  bl : ∀ x ∈ l, x.natAbs < 18446744073709551616
  bm : ∀ x ∈ m, x.natAbs < 18446744073709551616
section
variable {k : Nat} {l m : List Int} {K : Nat}
theorem i3 : IsFn fds 3 b_agree_to 2 7 := ⟨f_agree_to, rfl, rfl, rfl, rfl, rfl⟩
/-- one turn of powers -/
theorem pow_lc {i j a b : Nat} {own : List Nat} {en : En} {h : Hh} (k : Nat) (l : List Int) (hl : l.length < 1000) (bl : ∀ x ∈ l, x.natAbs < 18446744073709551616) (ea : en[a]? = some (some (.lst (IL (ps l k))))) (eb : en[b]? = some (some (tupI l)))
    (hs : ∀ x y : Int, ((kTp (kTcons (kNm i) (kTcons (kNm j) kTnil))) (wipeE en own) (.d (.tup [.int x, .int y])) h = .ok (((wipeE en own).set i (some (.int x))).set j (some (.int y))) h) ∧ (((wipeE en own).set i (some (.int x))).set j (some (.int y)))[i]? = some (some (.int x)) ∧ (((wipeE en own).set i (some (.int x))).set j (some (.int y)))[j]? = some (some (.int y))) :
    kLc (kBin .Mult (kV i) (kV j)) (kTp (kTcons (kNm i) (kTcons (kNm j) kTnil))) (kZp (kV a) (kV b)) kYes own en h = .ok (.fl (IL (ps l (k + 1)))) h := by
  rw [← ps_step]
  refine zip_lc (l := ps l k) (m := l) (fun a b => a * b) (zp_ok (v_ok ea) (v_ok eb) (cur_lst _ _) (cur_tup _ _)) (Ys_st _) (Ys_st _) (ps_len l k) (by unfold FUEL; omega) fun x y hx hy => ?_
  obtain ⟨h1, h2, h3⟩ := hs x y
  exact turn_ok (r := .d (.int (x * y))) h1 yes_ok (bin_ok (op := .Mult) (v_ok h2) (v_ok h3) (mul_l x y h (bl y hy)))
theorem agree_eq (hl : l.length < 1000) (h : Hh) : callD (runF cs fds (k + 1)) 3 [tupI l, tupI l] h = .ok (.d .non) h := by
  refine fn_is i3 ⟨rfl, by decide⟩ (by rw [List.all_cons, nr_TI 38, List.all_cons, nr_TI 38]; rfl) rfl ?_ h
  unfold b_agree_to
  simp only [dSs, dS, dE, dEs, dT, dTs, dI, dIf]
  refine (seq_nx (ite_k (cmp_ok (bi_ok (cons_ok (v_ok rfl) nil_ok) (len_TI l [])) (bi_ok (cons_ok (v_ok rfl) nil_ok) (len_TI l [])) (nei _ _ [])) (by simp; rfl))).trans ?_
  exact seq_rt (itt_k (cmp_ok (x := .d (tupI l)) (y := .d (tupI l)) (v_ok rfl) (v_ok rfl) (ceq (eq_T l l []))) (by simp; rfl) (seq_rt (ret_ok c_ok)))
theorem agree_ne (d : Df l m K) (h : Hh) : callD (runF cs fds (k + 1)) 3 [tupI l, tupI m] h = .ok (.d (.int (K - 1 : Nat))) h := by
  refine fn_is i3 ⟨rfl, by decide⟩ (by rw [List.all_cons, nr_TI 38, List.all_cons, nr_TI 38]; rfl) rfl ?_ h
  unfold b_agree_to
  simp only [dSs, dS, dE, dEs, dT, dTs, dI, dIf]
  refine (seq_nx (ite_k (cmp_ok (bi_ok (cons_ok (v_ok rfl) nil_ok) (len_TI l [])) (bi_ok (cons_ok (v_ok rfl) nil_ok) (len_TI m [])) (nei _ _ [])) (by rw [d.len]; simp; rfl))).trans ?_
  refine (seq_nx (ite_k (cmp_ok (x := .d (tupI l)) (y := .d (tupI m)) (v_ok rfl) (v_ok rfl) (ceq (eq_T l m []))) (by rw [decide_eq_false d.ne]; rfl))).trans ?_
  have st : kAsg (kTp (kTcons (kNm 2) (kTcons (kNm 3) (kTcons (kNm 4) kTnil)))) (kTup (kCons (kBi .lst (kCons (kV 0) kNil)) (kCons (kBi .lst (kCons (kV 1) kNil)) (kCons (kC (.int 0)) kNil)))) [some (tupI l), some (tupI m), none, none, none, none, none] [] =
      .ok (.nx [some (tupI l), some (tupI m), some (.lst (IL l)), some (.lst (IL m)), some (.int 0), none, none]) [] :=
    asg_ok (tup_ok (rs := [.fl (IL l), .fl (IL m), .d (.int 0)]) (cons_ok (bi_ok (cons_ok (v_ok rfl) nil_ok) rfl) (cons_ok (bi_ok (cons_ok (v_ok rfl) nil_ok) rfl) (cons_ok c_ok nil_ok))) ln3)
      (tp_ok (ds := [.lst (IL l), .lst (IL m), .int 0]) rfl (tcons_ok (nm_ok (lt_b rfl)) (tcons_ok (nm_ok (lt_b rfl)) (tcons_ok (nm_ok (lt_b rfl)) tnil_ok))))
  refine (seq_nx st).trans ?_
  have wl := while_at (test := kTest (kCmp .Eq (kBi .sum (kCons (kV 2) kNil)) (kBi .sum (kCons (kV 3) kNil)))) (step := kSeq (kAsg (kNm 2) (kLc (kBin .Mult (kV 5) (kV 6)) (kTp (kTcons (kNm 5) (kTcons (kNm 6) kTnil))) (kZp (kV 2) (kV 0)) kYes [5, 6])) (kSeq (kAsg (kNm 3) (kLc (kBin .Mult (kV 5) (kV 6)) (kTp (kTcons (kNm 5) (kTcons (kNm 6) kTnil))) (kZp (kV 3) (kV 1)) kYes [5, 6])) (kSeq (kAsg (kNm 4) (kBin .Add (kV 4) (kC (.int 1)))) kPass)))
    (fun j => [some (tupI l), some (tupI m), some (.lst (IL (ps l (j + 1)))), some (.lst (IL (ps m (j + 1)))), some (.int (j : Nat)), none, none]) [] (K - 1)
    (fun j hj => test_ok (x := .d (.bl true)) (cmp_ok (bi_ok (cons_ok (v_ok rfl) nil_ok) (sum_L _ [])) (bi_ok (cons_ok (v_ok rfl) nil_ok) (sum_L _ [])) ((eqi _ _ []).trans (by show some (decide (pw l (j + 1) = pw m (j + 1))) = _; rw [decide_eq_true (d.eq (j + 1) (by omega))]))) rfl)
    (fun j hj => seq_asg (pow_lc (j + 1) l d.sm d.bl rfl rfl fun x y => ⟨tp_ok rfl (tcons_ok (nm_ok (lt_b rfl)) (tcons_ok (nm_ok (lt_b rfl)) tnil_ok)), rfl, rfl⟩) (lt_b rfl) (seq_asg (pow_lc (j + 1) m (d.len ▸ d.sm) d.bm rfl rfl fun x y => ⟨tp_ok rfl (tcons_ok (nm_ok (lt_b rfl)) (tcons_ok (nm_ok (lt_b rfl)) tnil_ok)), rfl, rfl⟩) (lt_b rfl)
      (seq_asg (bin_ok (x := .d (.int (j : Nat))) (y := .d (.int 1)) (v_ok rfl) c_ok (add_i _ _ [])) (lt_b rfl) pass_ok)))
    (test_ok (x := .d (.bl false)) (cmp_ok (bi_ok (cons_ok (v_ok rfl) nil_ok) (sum_L _ [])) (bi_ok (cons_ok (v_ok rfl) nil_ok) (sum_L _ [])) ((eqi _ _ []).trans (by
      have := d.df
      rw [show K - 1 + 1 = K by have := d.k1; omega]
      show some (decide (pw l K = pw m K)) = _
      rw [decide_eq_false this]))) rfl) FUEL 0 (by omega) (by have := d.kn; have := d.sm; unfold FUEL; omega)
  simp only [Nat.zero_add, ps_one] at wl
  refine (seq_nx (en' := [some (tupI l), some (tupI m), some (.lst (IL (ps l (K - 1 + 1)))), some (.lst (IL (ps m (K - 1 + 1)))), some (.int (K - 1 : Nat)), none, none]) wl).trans ?_
  exact seq_rt (ret_ok (v_ok rfl))
end
end K96
end

section
set_option Elab.async false
set_option linter.all false
set_option maxRecDepth 100000
set_option maxHeartbeats 4000000
open MP PySem
namespace K96
theorem for_at {step : D → En → Hh → Out Fl} {h : Hh} {r : R} : ∀ (K : Nat) (ds : List D) (E : Nat → En) (f : Nat), K < ds.length → ds.length < f → (∀ j d, j < K → ds[j]? = some d → step d (E j) h = .ok (.nx (E (j + 1))) h) → (∀ d, ds[K]? = some d → step d (E K) h = .ok (.rt r) h) →
    forLoop step f (.st ds) (E 0) h = .ok (.rt r) h
  | K, [], _, _, hK, _, _, _ => absurd hK (by simp)
  | _, _ :: _, _, 0, _, hf, _, _ => absurd hf (by simp)
  | 0, d :: ds, E, f + 1, _, _, _, e => by
    show (match step d (E 0) h with | .ok (.nx en') h' => forLoop step f (.st ds) en' h' | .ok (.rt r) h' => .ok (.rt r) h' | .er e h' => .er e h' | .no => .no) = _
    rw [e d rfl]
  | K + 1, d :: ds, E, f + 1, hK, hf, s, e => by
    show (match step d (E 0) h with | .ok (.nx en') h' => forLoop step f (.st ds) en' h' | .ok (.rt r) h' => .ok (.rt r) h' | .er e h' => .er e h' | .no => .no) = _
    rw [s 0 d (by omega) rfl]
    exact for_at K ds (fun j => E (j + 1)) f (by simpa using hK) (by simpa using hf) (fun j d hj hd => s (j + 1) d (by omega) hd) (fun d hd => e d hd)
def xl : Nat → Option D
  | 0 => none
  | j + 1 => some (.int (j : Nat))
section
variable {k : Nat} {l m : List Int} {K : Nat}
theorem i27 : IsFn fds 27 b__law_agree 2 7 := ⟨f__law_agree, rfl, rfl, rfl, rfl, rfl⟩
theorem lagree_eq (h : Hh) : callD (runF cs fds (k + 1)) 27 [tupI l, tupI l] h = .ok (.d .non) h := by
  refine fn_is i27 ⟨rfl, by decide⟩ (by rw [List.all_cons, nr_TI 38, List.all_cons, nr_TI 38]; rfl) rfl ?_ h
  unfold b__law_agree
  simp only [dSs, dS, dE, dEs, dT, dTs, dI, dIf]
  exact seq_rt (itt_k (cmp_ok (x := .d (tupI l)) (y := .d (tupI l)) (v_ok rfl) (v_ok rfl) (ceq (eq_T l l []))) (by simp; rfl) (seq_rt (ret_ok c_ok)))
theorem lagree_ne (d : Df l m K) (h : Hh) : callD (runF cs fds (k + 1)) 27 [tupI l, tupI m] h = .ok (.d (.int (K - 1 : Nat))) h := by
  refine fn_is i27 ⟨rfl, by decide⟩ (by rw [List.all_cons, nr_TI 38, List.all_cons, nr_TI 38]; rfl) rfl ?_ h
  unfold b__law_agree
  simp only [dSs, dS, dE, dEs, dT, dTs, dI, dIf]
  refine (seq_nx (ite_k (cmp_ok (x := .d (tupI l)) (y := .d (tupI m)) (v_ok rfl) (v_ok rfl) (ceq (eq_T l m []))) (by rw [decide_eq_false d.ne]; rfl))).trans ?_
  refine (seq_nx (ite_k (cmp_ok (bi_ok (cons_ok (v_ok rfl) nil_ok) (len_TI l [])) (bi_ok (cons_ok (v_ok rfl) nil_ok) (len_TI m [])) (nei _ _ [])) (by rw [d.len]; simp; rfl))).trans ?_
  have st : kAsg (kTp (kTcons (kNm 3) (kTcons (kNm 4) kTnil))) (kTup (kCons (kC (.int 0)) (kCons (kLst (kCons (kBi .lst (kCons (kV 0) kNil)) (kCons (kBi .lst (kCons (kV 1) kNil)) kNil))) kNil))) [some (tupI l), some (tupI m), none, none, none, none, none] [] =
      .ok (.nx [some (tupI l), some (tupI m), none, some (.int 0), some (.lst [.lst (IL l), .lst (IL m)]), none, none]) [] :=
    asg_ok (tup_ok (rs := [.d (.int 0), .fl [.lst (IL l), .lst (IL m)]]) (cons_ok c_ok (cons_ok (lst_ok (rs := [.fl (IL l), .fl (IL m)]) (cons_ok (bi_ok (cons_ok (v_ok rfl) nil_ok) rfl) (cons_ok (bi_ok (cons_ok (v_ok rfl) nil_ok) rfl) nil_ok)) ln2) nil_ok)) ln2)
      (tp_ok (ds := [.int 0, .lst [.lst (IL l), .lst (IL m)]]) rfl (tcons_ok (nm_ok (lt_b rfl)) (tcons_ok (nm_ok (lt_b rfl)) tnil_ok)))
  refine (seq_nx st).trans ?_
  have k1 := d.k1
  have kn := d.kn
  have sm := d.sm
  have sums (j : Nat) (z : Option D) : ∀ (b : Bool), decide (pw l (j + 1) = pw m (j + 1)) = b → kCmp .NotEq (kBi .sum (kCons (kIx (kV 4) (kC (.int 0))) kNil)) (kBi .sum (kCons (kIx (kV 4) (kC (.int 1))) kNil)) [some (tupI l), some (tupI m), z, some (.int (j : Nat)), some (.lst [.lst (IL (ps l (j + 1))), .lst (IL (ps m (j + 1)))]), none, none] [] = .ok (.d (.bl (!b))) [] := fun b hb => by
    refine cmp_ok (bi_ok (cons_ok (ix_ok (x := .d (.lst [.lst (IL (ps l (j + 1))), .lst (IL (ps m (j + 1)))])) (y := .d (.int 0)) (v_ok rfl) c_ok rfl) nil_ok) (sum_L _ [])) (bi_ok (cons_ok (ix_ok (x := .d (.lst [.lst (IL (ps l (j + 1))), .lst (IL (ps m (j + 1)))])) (y := .d (.int 1)) (v_ok rfl) c_ok rfl) nil_ok) (sum_L _ [])) ((nei _ _ []).trans ?_)
    show some (!decide (pw l (j + 1) = pw m (j + 1))) = _
    rw [hb]
  have fl := for_at (r := .d (.int (K - 1 : Nat))) (h := []) (step := fun d en h => (kNm 2 en (.d d) h).bind fun en h => kSeq (kIteS (kCmp .NotEq (kBi .sum (kCons (kIx (kV 4) (kC (.int 0))) kNil)) (kBi .sum (kCons (kIx (kV 4) (kC (.int 1))) kNil))) (kSeq (kRet (kV 3)) kPass) kPass)
      (kSeq (kAsg (kNm 3) (kBin .Add (kV 3) (kC (.int 1)))) (kSeq (kAsg (kNm 4) (kLst (kCons (kLc (kBin .Mult (kV 5) (kV 6)) (kTp (kTcons (kNm 5) (kTcons (kNm 6) kTnil))) (kZp (kIx (kV 4) (kC (.int 0))) (kV 0)) kYes [5, 6]) (kCons (kLc (kBin .Mult (kV 5) (kV 6)) (kTp (kTcons (kNm 5) (kTcons (kNm 6) kTnil))) (kZp (kIx (kV 4) (kC (.int 1))) (kV 1)) kYes [5, 6]) kNil)))) kPass)) en h)
    (K - 1) (nums (l.length + 1)) (fun j => [some (tupI l), some (tupI m), xl j, some (.int (j : Nat)), some (.lst [.lst (IL (ps l (j + 1))), .lst (IL (ps m (j + 1)))]), none, none]) FUEL (by simp; omega) (by simp [FUEL]; omega)
    (fun j x hj hx => by
      have e : x = .int (j : Nat) := by
        rw [List.getElem?_map, List.getElem?_range (by omega)] at hx
        exact (Option.some.inj hx).symm
      subst e
      refine turn1 (en' := [some (tupI l), some (tupI m), some (.int (j : Nat)), some (.int (j : Nat)), some (.lst [.lst (IL (ps l (j + 1))), .lst (IL (ps m (j + 1)))]), none, none]) (h' := []) (nm_ok (lt_b rfl)) ?_
      refine (seq_nx (ite_k (x := .d (.bl false)) (sums j _ true (decide_eq_true (d.eq (j + 1) (by omega)))) rfl)).trans ?_
      refine seq_asg (bin_ok (x := .d (.int (j : Nat))) (y := .d (.int 1)) (v_ok rfl) c_ok (add_i _ _ [])) (lt_b rfl) ?_
      have z (a : Nat) (n : List Int) (hn : n.length < 1000) (bn : ∀ x ∈ n, x.natAbs < 18446744073709551616) (q : Int) (w : Nat) (e0 : [some (tupI l), some (tupI m), some (D.int (j : Nat)), some (.int ((j : Nat) + 1)), some (.lst [.lst (IL (ps l (j + 1))), .lst (IL (ps m (j + 1)))]), none, none][w]? = some (some (tupI n))) (e1 : L2.atI [D.lst (IL (ps l (j + 1))), .lst (IL (ps m (j + 1)))] q = some (.lst (IL (ps n (j + 1))))) :
          kLc (kBin .Mult (kV 5) (kV 6)) (kTp (kTcons (kNm 5) (kTcons (kNm 6) kTnil))) (kZp (kIx (kV 4) (kC (.int q))) (kV w)) kYes [5, 6] [some (tupI l), some (tupI m), some (D.int (j : Nat)), some (.int ((j : Nat) + 1)), some (.lst [.lst (IL (ps l (j + 1))), .lst (IL (ps m (j + 1)))]), none, none] [] = .ok (.fl (IL (ps n (j + 1 + 1)))) [] := by
        rw [show ps n (j + 1 + 1) = List.zipWith (fun a b => a * b) (ps n (j + 1)) n from (ps_step (j + 1) n).symm]
        refine zip_lc (l := ps n (j + 1)) (m := n) (fun a b => a * b) (zp_ok (a := kIx (kV 4) (kC (.int q))) (b := kV w) (ix_ok (x := .d (.lst [.lst (IL (ps l (j + 1))), .lst (IL (ps m (j + 1)))])) (y := .d (.int q)) (v_ok rfl) c_ok e1) (v_ok e0) (cur_lst _ _) (cur_tup _ _)) (Ys_st _) (Ys_st _) (ps_len n _) (by unfold FUEL; omega) fun x y hx hy => ?_
        exact turn_ok (r := .d (.int (x * y))) (tp_ok (ds := [.int x, .int y]) rfl (tcons_ok (nm_ok (lt_b rfl)) (tcons_ok (nm_ok (lt_b rfl)) tnil_ok))) yes_ok (bin_ok (op := .Mult) (x := .d (.int x)) (y := .d (.int y)) (v_ok rfl) (v_ok rfl) (mul_l x y [] (bn y hy)))
      exact seq_asg (lst_ok (rs := [.fl (IL (ps l (j + 1 + 1))), .fl (IL (ps m (j + 1 + 1)))]) (cons_ok (z 0 l sm d.bl 0 0 rfl rfl) (cons_ok (z 0 m (d.len ▸ sm) d.bm 1 1 rfl rfl) nil_ok)) ln2) (lt_b rfl) pass_ok)
    (fun x hx => by
      have e : x = .int (K - 1 : Nat) := by
        rw [List.getElem?_map, List.getElem?_range (by omega)] at hx
        exact (Option.some.inj hx).symm
      subst e
      refine turn1 (en' := [some (tupI l), some (tupI m), some (.int (K - 1 : Nat)), some (.int (K - 1 : Nat)), some (.lst [.lst (IL (ps l (K - 1 + 1))), .lst (IL (ps m (K - 1 + 1)))]), none, none]) (h' := []) (nm_ok (lt_b rfl)) ?_
      have df := d.df
      exact seq_rt (itt_k (x := .d (.bl true)) (sums (K - 1) _ false (decide_eq_false (by rw [show K - 1 + 1 = K by omega]; exact df))) rfl (seq_rt (ret_ok (v_ok rfl)))))
  simp only [Nat.zero_add, ps_one] at fl
  have rg : kRg1 (kBin .Add (kBi .len (kCons (kV 0) kNil)) (kC (.int 1))) [some (tupI l), some (tupI m), none, some (.int 0), some (.lst [.lst (IL l), .lst (IL m)]), none, none] [] = .ok (.st (nums (l.length + 1))) [] :=
    rg_ok (n := l.length + 1) (bin_ok (x := .d (.int l.length)) (y := .d (.int 1)) (bi_ok (cons_ok (v_ok rfl) nil_ok) (len_TI l [])) c_ok (add_i _ _ [])) (by omega)
  exact seq_rt (for_ok rg fl)
end
end K96
end

section
set_option Elab.async false
set_option linter.all false
set_option maxRecDepth 100000
set_option maxHeartbeats 4000000
open MP PySem
namespace K96
/-! ### the least of some -/
theorem foldl_min : ∀ (l : List Int) (a : Int), (l.foldl min a ≤ a) ∧ (∀ x ∈ l, l.foldl min a ≤ x) ∧ (l.foldl min a = a ∨ l.foldl min a ∈ l)
  | [], a => ⟨Int.le_refl _, fun _ h => (nomatch h), .inl rfl⟩
  | b :: l, a => by
    obtain ⟨h1, h2, h3⟩ := foldl_min l (min a b)
    have e : (b :: l).foldl min a = l.foldl min (min a b) := rfl
    rw [e]
    refine ⟨by omega, fun x hx => ?_, ?_⟩
    · rcases List.mem_cons.mp hx with rfl | hx
      · omega
      · exact h2 x hx
    · rcases h3 with h3 | h3
      · by_cases g : a ≤ b
        · exact .inl (by omega)
        · exact .inr (List.mem_cons.mpr (.inl (by omega)))
      · exact .inr (List.mem_cons_of_mem _ h3)
theorem mn_T (l : List Int) (hl : l ≠ []) (h : Hh) : ∃ d, biD .mn [.d (.tup (IL l))] h = some (.d (.int d)) ∧ (∀ x ∈ l, d ≤ x) ∧ d ∈ l := by
  cases l with
  | nil => exact absurd rfl hl
  | cons a l =>
    obtain ⟨h1, h2, h3⟩ := foldl_min l a
    refine ⟨l.foldl min a, ?_, fun x hx => ?_, ?_⟩
    · show bMn [.d (.tup (IL (a :: l)))] h = _
      have : ints1 [R.d (.tup (IL (a :: l)))] h = some (a :: l) := intsD_I (a :: l)
      unfold bMn
      rw [this]
    · rcases List.mem_cons.mp hx with rfl | hx
      · exact h1
      · exact h2 x hx
    · rcases h3 with h3 | h3
      · rw [h3]; exact List.mem_cons_self
      · exact List.mem_cons_of_mem _ h3
theorem ones (n : Nat) (hn : n < 1000) (h : Hh) : mulD (.fl [.int 1]) (.d (.int n)) h = some (.fl (List.replicate n (.int 1))) := by
  show mulL (.fl [.int 1]) n h = _
  unfold mulL
  show (if -(2 ^ 63) ≤ (n : Int) ∧ (n : Int) < 2 ^ 63 ∧ 1 * (n : Int).toNat ≤ sizeLine then some (R.fl (List.replicate (n : Int).toNat [D.int 1]).flatten) else none) = _
  rw [if_pos ⟨by omega, by omega, by unfold sizeLine; omega⟩, Int.toNat_natCast, List.flatten_replicate_singleton]
/-- the ways at k -/
def ws (d : Int) (l : List Int) (k : Nat) : List Int := l.map (wy d k)
theorem ws_zero (d : Int) (l : List Int) : IL (ws d l 0) = List.replicate l.length (.int 1) := by
  refine List.eq_replicate_iff.mpr ⟨by unfold ws; simp, fun x hx => ?_⟩
  obtain ⟨a, ha, rfl⟩ := List.mem_map.mp hx
  obtain ⟨b, _, rfl⟩ := List.mem_map.mp ha
  show D.int ((ch (b - d).toNat 0 : Nat) : Int) = _
  rw [ch_zero]; rfl
theorem wy_step {d x : Int} (h : d ≤ x) (k : Nat) : wy d k x * (x - d - k) / ((k : Int) + 1) = wy d (k + 1) x := by
  have := ch_div (x - d).toNat k
  rw [show ((x - d).toNat : Int) = x - d by omega] at this
  exact this
theorem ws_step (d : Int) (k : Nat) : ∀ l : List Int, (∀ x ∈ l, d ≤ x) → List.zipWith (fun w x => w * (x - d - k) / ((k : Int) + 1)) (ws d l k) l = ws d l (k + 1)
  | [], _ => rfl
  | a :: l, h => by
    show wy d k a * (a - d - k) / ((k : Int) + 1) :: List.zipWith _ (ws d l k) l = wy d (k + 1) a :: ws d l (k + 1)
    rw [wy_step (h a List.mem_cons_self), ws_step d k l fun x hx => h x (List.mem_cons_of_mem _ hx)]
theorem i5 : IsFn fds 5 b_one_order 2 8 := ⟨f_one_order, rfl, rfl, rfl, rfl, rfl⟩
def Bq (l : List Int) : Prop := ∀ x ∈ l, x.natAbs < 4611686018427387904
section
variable {k : Nat} {l m : List Int} {K : Nat}
theorem order_eq (hl : l.length < 1000) (h : Hh) : callD (runF cs fds (k + 1)) 5 [tupI l, tupI l] h = .ok (.d .non) h := by
  refine fn_is i5 ⟨rfl, by decide⟩ (by rw [List.all_cons, nr_TI 38, List.all_cons, nr_TI 38]; rfl) rfl ?_ h
  unfold b_one_order
  simp only [dSs, dS, dE, dEs, dT, dTs, dI, dIf]
  exact seq_rt (itt_k (cmp_ok (bi_ok (cons_ok (v_ok rfl) nil_ok) (srt_T l (by omega) [])) (bi_ok (cons_ok (v_ok rfl) nil_ok) (srt_T l (by omega) [])) (ceq (eq_L _ _ []))) (by simp; rfl) (seq_rt (ret_ok c_ok)))
theorem order_ne (d : Df l m K) (al : Asc l) (am : Asc m) (bl : Bq l) (bm : Bq m) (h : Hh) : callD (runF cs fds (k + 1)) 5 [tupI l, tupI m] h = .ok (.d (.int (K : Nat))) h := by
  have k1 := d.k1
  have kn := d.kn
  have sm := d.sm
  have len := d.len
  refine fn_is i5 ⟨rfl, by decide⟩ (by rw [List.all_cons, nr_TI 38, List.all_cons, nr_TI 38]; rfl) rfl ?_ h
  unfold b_one_order
  simp only [dSs, dS, dE, dEs, dT, dTs, dI, dIf]
  refine (seq_nx (ite_k (cmp_ok (bi_ok (cons_ok (v_ok rfl) nil_ok) (srt_T l (by omega) [])) (bi_ok (cons_ok (v_ok rfl) nil_ok) (srt_T m (by omega) [])) (ceq (eq_L _ _ []))) (by rw [srt_id al, srt_id am, decide_eq_false d.ne]; rfl))).trans ?_
  obtain ⟨q, mn, ge, mem⟩ := mn_T (l ++ m) (by intro e; have := congrArg List.length e; rw [List.length_append] at this; simp only [List.length_nil] at this; omega) []
  have gl : ∀ x ∈ l, q ≤ x := fun x hx => ge x (List.mem_append.mpr (.inl hx))
  have gm : ∀ x ∈ m, q ≤ x := fun x hx => ge x (List.mem_append.mpr (.inr hx))
  have bq : q.natAbs < 4611686018427387904 := by
    rcases List.mem_append.mp mem with h | h
    · exact bl q h
    · exact bm q h
  refine seq_asg (bi_ok (cons_ok (bin_ok (x := .d (tupI l)) (y := .d (tupI m)) (z := .d (.tup (IL (l ++ m)))) (v_ok rfl) (v_ok rfl) ?_) nil_ok) mn) (lt_b rfl) ?_
  · show (if line ((IL l).length + (IL m).length) then some (R.d (.tup (IL l ++ IL m))) else none) = _
    rw [if_pos (line_lt (by rw [len_I, len_I]; omega)), IL, IL, IL, List.map_append]
  have st : kAsg (kTp (kTcons (kNm 3) (kTcons (kNm 4) (kTcons (kNm 5) kTnil)))) (kTup (kCons (kBin .Mult (kLst (kCons (kC (.int 1)) kNil)) (kBi .len (kCons (kV 0) kNil))) (kCons (kBin .Mult (kLst (kCons (kC (.int 1)) kNil)) (kBi .len (kCons (kV 1) kNil))) (kCons (kC (.int 0)) kNil)))) [some (tupI l), some (tupI m), some (.int q), none, none, none, none, none] [] =
      .ok (.nx [some (tupI l), some (tupI m), some (.int q), some (.lst (IL (ws q l 0))), some (.lst (IL (ws q m 0))), some (.int 0), none, none]) [] := by
    rw [ws_zero, ws_zero]
    exact asg_ok (tup_ok (rs := [.fl (List.replicate l.length (.int 1)), .fl (List.replicate m.length (.int 1)), .d (.int 0)]) (cons_ok (bin_ok (x := .fl [.int 1]) (y := .d (.int l.length)) (lst_ok (cons_ok c_ok nil_ok) ln1) (bi_ok (cons_ok (v_ok rfl) nil_ok) (len_TI l [])) (ones l.length sm [])) (cons_ok (bin_ok (x := .fl [.int 1]) (y := .d (.int m.length)) (lst_ok (cons_ok c_ok nil_ok) ln1) (bi_ok (cons_ok (v_ok rfl) nil_ok) (len_TI m [])) (ones m.length (by omega) [])) (cons_ok c_ok nil_ok))) ln3)
      (tp_ok (ds := [.lst (List.replicate l.length (.int 1)), .lst (List.replicate m.length (.int 1)), .int 0]) rfl (tcons_ok (nm_ok (lt_b rfl)) (tcons_ok (nm_ok (lt_b rfl)) (tcons_ok (nm_ok (lt_b rfl)) tnil_ok))))
  refine (seq_nx st).trans ?_
  have z (n : List Int) (j a b : Nat) (hj : j < 1000) (hn : n.length < 1000) (gn : ∀ x ∈ n, q ≤ x) (bn : Bq n) (en : En) (e2 : (wipeE en [6, 7])[2]? = some (some (.int q))) (e5 : (wipeE en [6, 7])[5]? = some (some (.int (j : Nat)))) (len : 8 = (wipeE en [6, 7]).length) (ea : en[a]? = some (some (.lst (IL (ws q n j))))) (eb : en[b]? = some (some (tupI n))) :
      kLc (kBin .FloorDiv (kBin .Mult (kV 6) (kBin .Sub (kBin .Sub (kV 7) (kV 2)) (kV 5))) (kBin .Add (kV 5) (kC (.int 1)))) (kTp (kTcons (kNm 6) (kTcons (kNm 7) kTnil))) (kZp (kV a) (kV b)) kYes [6, 7] en [] = .ok (.fl (IL (ws q n (j + 1)))) [] := by
    rw [← ws_step q j n gn]
    refine zip_lc (l := ws q n j) (m := n) (fun w x => w * (x - q - j) / ((j : Int) + 1)) (zp_ok (v_ok ea) (v_ok eb) (cur_lst _ _) (cur_tup _ _)) (Ys_st _) (Ys_st _) (by unfold ws; rw [List.length_map]) (by unfold FUEL; omega) fun w x hw hx => ?_
    have bx := bn x hx
    refine turn_ok (r := .d (.int (w * (x - q - j) / ((j : Int) + 1)))) (en1 := ((wipeE en [6, 7]).set 6 (some (.int w))).set 7 (some (.int x))) (tp_ok (ds := [.int w, .int x]) rfl (tcons_ok (nm_ok (by rw [← len]; decide)) (tcons_ok (nm_ok (by rw [List.length_set, ← len]; decide)) tnil_ok))) yes_ok ?_
    refine bin_ok (op := .FloorDiv) (x := .d (.int (w * (x - q - j)))) (y := .d (.int ((j : Int) + 1))) (bin_ok (op := .Mult) (x := .d (.int w)) (y := .d (.int (x - q - j))) (v_ok ?_) (bin_ok (op := .Sub) (x := .d (.int (x - q))) (y := .d (.int j)) (bin_ok (op := .Sub) (x := .d (.int x)) (y := .d (.int q)) (v_ok ?_) (v_ok ?_) (sub_i _ _ [])) (v_ok ?_) (sub_i _ _ [])) (mul_l w (x - q - j) [] (by omega))) (bin_ok (op := .Add) (x := .d (.int j)) (y := .d (.int 1)) (v_ok ?_) c_ok (add_i _ _ [])) (fdiv_p _ _ [] (by omega) (by omega))
    · rw [List.getElem?_set_ne (by decide), List.getElem?_set_self (by rw [← len]; decide)]
    · rw [List.getElem?_set_self (by rw [List.length_set, ← len]; decide)]
    · rw [List.getElem?_set_ne (by decide), List.getElem?_set_ne (by decide)]; exact e2
    · rw [List.getElem?_set_ne (by decide), List.getElem?_set_ne (by decide)]; exact e5
    · rw [List.getElem?_set_ne (by decide), List.getElem?_set_ne (by decide)]; exact e5
  have wl := while_at (test := kTest (kCmp .Eq (kBi .sum (kCons (kV 3) kNil)) (kBi .sum (kCons (kV 4) kNil)))) (step := kSeq (kAsg (kNm 3) (kLc (kBin .FloorDiv (kBin .Mult (kV 6) (kBin .Sub (kBin .Sub (kV 7) (kV 2)) (kV 5))) (kBin .Add (kV 5) (kC (.int 1)))) (kTp (kTcons (kNm 6) (kTcons (kNm 7) kTnil))) (kZp (kV 3) (kV 0)) kYes [6, 7])) (kSeq (kAsg (kNm 4) (kLc (kBin .FloorDiv (kBin .Mult (kV 6) (kBin .Sub (kBin .Sub (kV 7) (kV 2)) (kV 5))) (kBin .Add (kV 5) (kC (.int 1)))) (kTp (kTcons (kNm 6) (kTcons (kNm 7) kTnil))) (kZp (kV 4) (kV 1)) kYes [6, 7])) (kSeq (kAsg (kNm 5) (kBin .Add (kV 5) (kC (.int 1)))) kPass)))
    (fun j => [some (tupI l), some (tupI m), some (.int q), some (.lst (IL (ws q l j))), some (.lst (IL (ws q m j))), some (.int (j : Nat)), none, none]) [] K
    (fun j hj => test_ok (x := .d (.bl true)) (cmp_ok (bi_ok (cons_ok (v_ok rfl) nil_ok) (sum_L _ [])) (bi_ok (cons_ok (v_ok rfl) nil_ok) (sum_L _ [])) ((eqi _ _ []).trans (by
      have := wy_diff (d := q) (k := j) gl gm (fun i hi => d.eq i (by omega))
      rw [d.eq j hj, Int.sub_self] at this
      have e : sf (wy q j) l = sf (wy q j) m := by
        rcases Int.mul_eq_zero.mp this with h | h
        · have := fact_pos j; omega
        · omega
      show some (decide (sf (wy q j) l = sf (wy q j) m)) = _
      rw [decide_eq_true e]))) rfl)
    (fun j hj => seq_asg (z l j 3 0 (by omega) sm gl bl _ rfl rfl rfl rfl rfl) (lt_b rfl) (seq_asg (z m j 4 1 (by omega) (by omega) gm bm _ rfl rfl rfl rfl rfl) (lt_b rfl) (seq_asg (bin_ok (x := .d (.int (j : Nat))) (y := .d (.int 1)) (v_ok rfl) c_ok (add_i _ _ [])) (lt_b rfl) pass_ok)))
    (test_ok (x := .d (.bl false)) (cmp_ok (bi_ok (cons_ok (v_ok rfl) nil_ok) (sum_L _ [])) (bi_ok (cons_ok (v_ok rfl) nil_ok) (sum_L _ [])) ((eqi _ _ []).trans (by
      have := wy_diff (d := q) (k := K) gl gm (fun i hi => d.eq i (by omega))
      have df := d.df
      have e : sf (wy q K) l ≠ sf (wy q K) m := fun e => by
        rw [e, Int.sub_self, Int.mul_zero] at this
        omega
      show some (decide (sf (wy q K) l = sf (wy q K) m)) = _
      rw [decide_eq_false e]))) rfl) FUEL 0 (by omega) (by unfold FUEL; omega)
  refine (seq_nx wl).trans ?_
  exact seq_rt (ret_ok (v_ok rfl))
end
end K96
end

section
set_option Elab.async false
set_option linter.all false
set_option maxRecDepth 100000
set_option maxHeartbeats 4000000
open MP PySem
namespace K96
theorem i0 : IsFn fds 0 b_is_integer 1 1 := ⟨f_is_integer, rfl, rfl, rfl, rfl, rfl⟩
theorem i1 : IsFn fds 1 b_bag_error 1 3 := ⟨f_bag_error, rfl, rfl, rfl, rfl, rfl⟩
theorem i2 : IsFn fds 2 b_power_sums 2 7 := ⟨f_power_sums, rfl, rfl, rfl, rfl, rfl⟩
theorem i6 : IsFn fds 6 b_product_row 1 5 := ⟨f_product_row, rfl, rfl, rfl, rfl, rfl⟩
theorem i7 : IsFn fds 7 b_is_far_pair 2 2 := ⟨f_is_far_pair, rfl, rfl, rfl, rfl, rfl⟩
theorem isint (k : Nat) (x : Int) (h : Hh) : callD (runF cs fds (k + 1)) 0 [.int x] h = .ok (.d (.bl true)) h := by
  refine fn_is i0 ⟨rfl, by decide⟩ rfl rfl ?_ h
  unfold b_is_integer
  simp only [dSs, dS, dE, dEs, dT, dTs, dI, dIf]
  exact seq_rt (ret_ok (and_t (x := .d (.bl true)) (bi_ok (cons_ok (v_ok rfl) nil_ok) rfl) rfl (not_ok (x := .d (.bl false)) (k := false) (bi_ok (cons_ok (v_ok rfl) nil_ok) rfl) rfl)))
section
variable {k : Nat} {l m : List Int} {K : Nat}
theorem take_step (l : List Int) (j : Nat) (x : Int) (h : l[j]? = some x) : l.take (j + 1) = l.take j ++ [x] := by
  rw [List.take_add_one, h]; rfl
theorem RC_len (l : List Int) : (RC l).length = l.length + 1 := by unfold RC; rw [List.length_map, List.length_range]
theorem at_I {l : List Int} {j : Nat} {d : D} (h : (IL l)[j]? = some d) : ∃ x, l[j]? = some x ∧ d = .int x := by
  rw [List.getElem?_map] at h
  cases e : l[j]? with
  | none => rw [e] at h; exact nomatch h
  | some x => rw [e] at h; exact ⟨x, rfl, (Option.some.inj h).symm⟩
theorem prow_call (hl : l.length < 1000) (bl : Bq l) (h : Hh) : callD (runF cs fds (k + 1)) 6 [tupI l] h = .ok (.d (tupI (RC l))) h := by
  refine fn_is i6 ⟨rfl, by decide⟩ (by rw [List.all_cons, nr_TI 38]; rfl) (show nrR (.d (tupI (RC l))) = true from nr_TI 38 _) ?_ h
  unfold b_product_row
  simp only [dSs, dS, dE, dEs, dT, dTs, dI, dIf]
  refine seq_asg (lst_ok (rs := [.d (.int 1)]) (cons_ok c_ok nil_ok) ln1) (lt_b rfl) ?_
  obtain ⟨en', h', fl, x2, e1, e2⟩ := for_ys (step := fun d en h => (kNm 2 en (.d d) h).bind fun en h => kSeq (kAsg (kNm 1) (kLc (kBin .Sub (kV 3) (kBin .Mult (kV 2) (kV 4))) (kTp (kTcons (kNm 3) (kTcons (kNm 4) kTnil))) (kZp (kBin .Add (kLst (kCons (kC (.int 0)) kNil)) (kV 1)) (kBin .Add (kV 1) (kLst (kCons (kC (.int 0)) kNil)))) kYes [3, 4])) kPass en h)
    (fun j en h => ∃ x2, en = [some (tupI l), some (.lst (IL ((l.take j).foldl mulT [1]))), x2, none, none] ∧ h = []) (IL l) (.st (IL l)) 0 FUEL [some (tupI l), some (.lst [.int 1]), none, none, none] [] (Ys_st _)
    (by
      rintro j d hd en h ⟨x2, rfl, rfl⟩
      obtain ⟨a, ha, rfl⟩ := at_I hd
      have am : a ∈ l := List.mem_of_getElem? ha
      rw [Nat.zero_add]
      refine ⟨[some (tupI l), some (.lst (IL ((l.take (j + 1)).foldl mulT [1]))), some (.int a), none, none], [], ?_, some (.int a), rfl, rfl⟩
      rw [take_step l j a ha, List.foldl_append]
      obtain ⟨F, hF⟩ : ∃ F, F = (l.take j).foldl mulT [1] := ⟨_, rfl⟩
      rw [← hF]
      have Fl : F.length < 1002 := by
        rw [hF, prow1, RC_len, List.length_take]
        omega
      refine turn1 (en' := [some (tupI l), some (.lst (IL F)), some (.int a), none, none]) (h' := []) (nm_ok (lt_b rfl)) (seq_asg (r := .fl (IL (mulT F a))) (zip_lc (l := 0 :: F) (m := F ++ [0]) (fun u o => u - a * o) (zp_ok (x := .fl (IL (0 :: F))) (y := .fl (IL (F ++ [0]))) (bin_ok (x := .fl [.int 0]) (y := .d (.lst (IL F))) (lst_ok (rs := [.d (.int 0)]) (cons_ok c_ok nil_ok) ln1) (v_ok rfl) ?_) (bin_ok (x := .d (.lst (IL F))) (y := .fl [.int 0]) (v_ok rfl) (lst_ok (rs := [.d (.int 0)]) (cons_ok c_ok nil_ok) ln1) ?_) (cur_fl _ _) (cur_fl _ _)) (Ys_st _) (Ys_st _) (by simp) (by simp; unfold FUEL; omega) fun u o hu ho => ?_) (lt_b rfl) pass_ok)
      · show (if line ([D.int 0].length + (IL F).length) then some (R.fl ([.int 0] ++ IL F)) else none) = _
        rw [if_pos (line_lt (by rw [len_I]; simp; omega))]; rfl
      · show (if line ((IL F).length + [D.int 0].length) then some (R.fl (IL F ++ [.int 0])) else none) = _
        rw [if_pos (line_lt (by rw [len_I]; simp; omega)), IL, IL, List.map_append]; rfl
      · exact turn_ok (r := .d (.int (u - a * o))) (tp_ok (ds := [.int u, .int o]) rfl (tcons_ok (nm_ok (lt_b rfl)) (tcons_ok (nm_ok (lt_b rfl)) tnil_ok))) yes_ok
          (bin_ok (op := .Sub) (x := .d (.int u)) (y := .d (.int (a * o))) (v_ok rfl) (bin_ok (op := .Mult) (x := .d (.int a)) (y := .d (.int o)) (v_ok rfl) (v_ok rfl) (mul_lo a o [] (by have := bl a am; omega))) (sub_i _ _ [])))
    (by rw [len_I]; unfold FUEL; omega) ⟨none, rfl, rfl⟩
  subst e1; subst e2
  rw [Nat.zero_add, len_I, List.take_length, prow1] at fl
  refine (seq_nx (for_ok (ie_ok (r := .d (tupI l)) (v_ok rfl) (cur_tup _ _)) fl)).trans ?_
  exact seq_rt (ret_ok (bi_ok (cons_ok (v_ok rfl) nil_ok) rfl))
theorem drop1 (l : List Int) (h : Hh) (hl : 1 ≤ l.length) : slD (.d (tupI l)) (some 1) none h = some (.d (tupI (l.drop 1))) := by
  show some (R.d (.tup (cutD (IL l) (some 1) none))) = _
  have : cutD (IL l) (some 1) none = IL (l.drop 1) := by
    unfold cutD
    rw [HT.sIx_none, show HT.sIx (IL l).length 0 (some 1) = min 1 (IL l).length from HT.sIx_nat _ _ 1, len_I, Nat.min_eq_left hl, List.take_of_length_le (by rw [List.length_drop, len_I]; omega)]
    exact (List.map_drop ..).symm
  rw [this]; rfl
theorem far_eq (hl : l.length < 1000) (h : Hh) : callD (runF cs fds (k + 2)) 7 [tupI l, tupI l] h = .ok (.d (.bl false)) h := by
  refine fn_is i7 ⟨rfl, by decide⟩ (by rw [List.all_cons, nr_TI 38, List.all_cons, nr_TI 38]; rfl) rfl ?_ h
  unfold b_is_far_pair
  simp only [dSs, dS, dE, dEs, dT, dTs, dI, dIf]
  exact seq_rt (itt_k (x := .d (.bl true)) (or_f (x := .d (.bl false)) (cmp_ok (bi_ok (cons_ok (v_ok rfl) nil_ok) (len_TI l [])) (bi_ok (cons_ok (v_ok rfl) nil_ok) (len_TI l [])) ((nei _ _ []).trans (by simp))) rfl (cmp_ok (x := .d (tupI l)) (y := .d (tupI l)) (v_ok rfl) (v_ok rfl) ((ceq (eq_T l l [])).trans (by simp)))) rfl (seq_rt (ret_ok c_ok)))
theorem far_ne (d : Df l m K) (bl : Bq l) (bm : Bq m) (h : Hh) : callD (runF cs fds (k + 2)) 7 [tupI l, tupI m] h = .ok (.d (.bl (decide (K = l.length)))) h := by
  have k1 := d.k1
  have kn := d.kn
  have sm := d.sm
  have len := d.len
  refine fn_is i7 ⟨rfl, by decide⟩ (by rw [List.all_cons, nr_TI 38, List.all_cons, nr_TI 38]; rfl) rfl ?_ h
  unfold b_is_far_pair
  simp only [dSs, dS, dE, dEs, dT, dTs, dI, dIf]
  refine (seq_nx (ite_k (x := .d (.bl false)) (or_f (x := .d (.bl false)) (cmp_ok (bi_ok (cons_ok (v_ok rfl) nil_ok) (len_TI l [])) (bi_ok (cons_ok (v_ok rfl) nil_ok) (len_TI m [])) ((nei _ _ []).trans (by rw [len]; simp))) rfl (cmp_ok (x := .d (tupI l)) (y := .d (tupI m)) (v_ok rfl) (v_ok rfl) ((ceq (eq_T l m [])).trans (by rw [decide_eq_false d.ne])))) rfl)).trans ?_
  have dec : decide ((RC l).drop 1 = (RC m).drop 1) = decide (K = l.length) := by
    refine decide_eq_decide.mpr ((far_iff len (by omega)).trans ⟨fun e => ?_, fun e j hj => d.eq (j + 1) (by omega)⟩)
    refine Classical.byContradiction fun ne => ?_
    have := e (K - 1) (by omega)
    rw [show K - 1 + 1 = K by omega] at this
    exact d.df this
  refine seq_rt (ret_ok (cmp_ok (x := .d (tupI ((RC l).drop 1))) (y := .d (tupI ((RC m).drop 1))) (sl_ok (l := some 1) (u := none) (call_ok (xs := [.d (tupI l)]) (cons_ok (v_ok rfl) nil_ok) nil_ok rfl (prow_call sm bl [])) (part_t c_ok) part_f (drop1 _ _ (by rw [RC_len]; omega))) (sl_ok (l := some 1) (u := none) (call_ok (xs := [.d (tupI m)]) (cons_ok (v_ok rfl) nil_ok) nil_ok rfl (prow_call (by omega) bm [])) (part_t c_ok) part_f (drop1 _ _ (by rw [RC_len]; omega))) ((ceq (eq_T _ _ [])).trans ?_)))
  rw [dec]
end
end K96
end

section
set_option Elab.async false
set_option linter.all false
set_option maxRecDepth 100000
set_option maxHeartbeats 4000000
open MP PySem
namespace K96
/-- a def that makes own lists and answers data -/
theorem fn_isH {k i ps N : Nat} {b : Ss} {ds : List D} {r : R} {e0 : Hh} (f : IsFn fds i b ps N) (l : ds.length = ps ∧ ps ≤ N) (lo : ds.all (nr 40) = true) (nn : nrR r = true)
    (e : dSs (runF cs fds k) cs b (ds.map some ++ List.replicate (N - ds.length) none) [] = .ok (.rt r) e0) (h : Hh) : callD (runF cs fds (k + 1)) i ds h = .ok r h := by
  obtain ⟨fd, q, qb, qz, qp, qN⟩ := f.ex
  refine callD_cl h (nr_all lo 0) ?_
  rw [run_rt q (by rw [qp, qN]; exact l) (by rw [qb, qN]; exact e), qz, fin_nr nn]
  rfl
section
variable {k : Nat} {l m : List Int} {K : Nat}
theorem asc_at : ∀ {l : List Int} {i : Nat} {x y : Int}, Asc l → l[i]? = some x → l[i + 1]? = some y → x ≤ y
  | [], _, _, _, _, h, _ => by simp at h
  | a :: l, 0, x, y, as, h, g => by
    rw [List.getElem?_cons_zero] at h
    rw [List.getElem?_cons_succ] at g
    rw [← Option.some.inj h]
    exact as.1 y (List.mem_of_getElem? g)
  | a :: l, i + 1, x, y, as, h, g => by
    rw [List.getElem?_cons_succ] at h g
    exact asc_at as.2 h g
theorem atI_I {l : List Int} {i : Nat} {x : Int} (h : l[i]? = some x) : L2.atI (IL l) (i : Int) = some (.int x) := by
  obtain ⟨hi, e⟩ := List.getElem?_eq_some_iff.mp h
  have : IL l = (List.range l.length).map fun j => D.int (l.getD j 0) := by
    refine List.ext_getElem (by simp) fun j h1 h2 => ?_
    have hj : j < l.length := by simpa using h1
    rw [List.getElem_map, List.getElem_map, List.getElem_range, List.getD_eq_getElem?_getD, List.getElem?_eq_getElem hj]; rfl
  rw [this, atI_tab hi, List.getD_eq_getElem?_getD, h]; rfl
theorem bag_ok (h1 : 1 ≤ l.length) (h2 : l.length ≤ 64) (al : Asc l) (bd : ∀ x ∈ l, x.natAbs ≤ 1000000) (h : Hh) : callD (runF cs fds (k + 2)) 1 [tupI l] h = .ok (.d .non) h := by
  refine fn_is i1 ⟨rfl, by decide⟩ (by rw [List.all_cons, nr_TI 38]; rfl) rfl ?_ h
  unfold b_bag_error
  simp only [dSs, dS, dE, dEs, dT, dTs, dI, dIf]
  have c1 : cmpD .LtE (.d (.int 1)) (.d (.int l.length)) [] = some true := by
    show some (decide ((1 : Int) ≤ l.length)) = _
    rw [decide_eq_true (by omega)]
  have c2 : cmpD .LtE (.d (.int l.length)) (.d (.int 64)) [] = some true := by
    show some (decide ((l.length : Int) ≤ 64)) = _
    rw [decide_eq_true (by omega)]
  have ch : kChain .LtE .LtE (kC (.int 1)) (kBi .len (kCons (kV 0) kNil)) (kG cs 0) [some (tupI l), none, none] [] = .ok (.d (.bl true)) [] := by
    unfold kChain
    rw [c_ok, ok_bind, bi_ok (cons_ok (v_ok rfl) nil_ok) (len_TI l []), ok_bind, c1]
    show ((kG cs 0 _ _).bind _) = _
    rw [g_ok (d := .int 64) rfl, ok_bind, c2]; rfl
  refine (seq_nx (ite_k (x := .d (.bl false)) (or_f (x := .d (.bl false)) (not_ok (x := .d (.bl true)) (k := true) (bi_ok (cons_ok (v_ok rfl) nil_ok) rfl) rfl) rfl (not_ok (x := .d (.bl true)) (k := true) ch rfl)) rfl)).trans ?_
  -- the items
  obtain ⟨en', h', f1, x1, x2, e1, e2⟩ := for_ys (step := fun d en h => (kTp (kTcons (kNm 1) (kTcons (kNm 2) kTnil)) en (.d d) h).bind fun en h => kSeq (kIteS (kOr (kNot (kCall (runF cs fds (k + 1)) 0 (kCons (kV 2) kNil) kNil [0])) (kCmp .Gt (kBi .abs (kCons (kV 2) kNil)) (kG cs 1))) (kSeq (kRet (kTup (kCons (kC (.str ⟨#[105, 116, 101, 109]⟩)) (kCons (kV 1) kNil)))) kPass) kPass) kPass en h)
    (fun j en h => ∃ x1 x2, en = [some (tupI l), x1, x2] ∧ h = []) _ _ 0 FUEL [some (tupI l), none, none] [] (Ys_en 0 (Ys_st (IL l)))
    (by
      rintro j d hd en h ⟨x1, x2, rfl, rfl⟩
      rw [List.getElem?_mapIdx] at hd
      cases g : (IL l)[j]? with
      | none => rw [g] at hd; exact nomatch hd
      | some u =>
        rw [g] at hd
        obtain ⟨a, ha, rfl⟩ := at_I g
        have hd := (Option.some.inj hd).symm
        subst hd
        have am : a ∈ l := List.mem_of_getElem? ha
        refine ⟨[some (tupI l), some (.int (0 + j : Nat)), some (.int a)], [], turn1 (en' := [some (tupI l), some (.int (0 + j : Nat)), some (.int a)]) (h' := []) (tp_ok (ds := [.int (0 + j : Nat), .int a]) rfl (tcons_ok (nm_ok (lt_b rfl)) (tcons_ok (nm_ok (lt_b rfl)) tnil_ok))) ?_, _, _, rfl, rfl⟩
        refine (seq_nx (ite_k (x := .d (.bl false)) (or_f (x := .d (.bl false)) (not_ok (x := .d (.bl true)) (k := true) (call_ok (xs := [.d (.int a)]) (cons_ok (v_ok rfl) nil_ok) nil_ok rfl (isint k a [])) rfl) rfl (cmp_ok (x := .d (.int (if a < 0 then -a else a))) (y := .d (.int 1000000)) (bi_ok (cons_ok (v_ok rfl) nil_ok) rfl) (g_ok (d := .int 1000000) rfl) ?_)) rfl)).trans pass_ok
        show some (decide ((1000000 : Int) < if a < 0 then -a else a)) = _
        have := bd a am
        rw [decide_eq_false (by split <;> omega)])
    (by rw [List.length_mapIdx, len_I]; unfold FUEL; omega) ⟨none, none, rfl, rfl⟩
  subst e1; subst e2
  refine (seq_nx (for_ok (c := .en 0 (.st (IL l))) (en_ok (r := .d (tupI l)) (v_ok rfl) (cur_tup _ _)) f1)).trans ?_
  -- the order
  obtain ⟨en', h', f2, y1, e1, e2⟩ := for_ys (step := fun d en h => (kNm 1 en (.d d) h).bind fun en h => kSeq (kIteS (kCmp .Lt (kIx (kV 0) (kV 1)) (kIx (kV 0) (kBin .Sub (kV 1) (kC (.int 1))))) (kSeq (kRet (kTup (kCons (kC (.str ⟨#[111, 114, 100, 101, 114]⟩)) (kCons (kV 1) kNil)))) kPass) kPass) kPass en h)
    (fun j en h => ∃ y1, en = [some (tupI l), y1, x2] ∧ h = []) (rng 1 l.length) (.st (rng 1 l.length)) 0 FUEL [some (tupI l), x1, x2] [] (Ys_st _)
    (by
      rintro j d hd en h ⟨y1, rfl, rfl⟩
      have hj : j < l.length - 1 := by
        have := (List.getElem?_eq_some_iff.mp hd).1
        unfold rng at this
        simp at this
        omega
      have hd : d = .int ((1 : Int) + j) := by
        unfold rng at hd
        rw [List.getElem?_map, List.getElem?_range (by omega)] at hd
        exact (Option.some.inj hd).symm
      subst hd
      obtain ⟨x, hx⟩ : ∃ x, l[j]? = some x := ⟨_, List.getElem?_eq_getElem (by omega)⟩
      obtain ⟨y, hy⟩ : ∃ y, l[j + 1]? = some y := ⟨_, List.getElem?_eq_getElem (by omega)⟩
      have le := asc_at al hx hy
      have ej : (1 : Int) + (j : Int) = ((j + 1 : Nat) : Int) := by omega
      rw [ej]
      refine ⟨[some (tupI l), some (.int (j + 1 : Nat)), x2], [], turn1 (en' := [some (tupI l), some (.int (j + 1 : Nat)), x2]) (h' := []) (nm_ok (lt_b rfl)) ?_, _, rfl, rfl⟩
      have s1 := sub_i ((j + 1 : Nat) : Int) 1 []
      rw [show ((j + 1 : Nat) : Int) - 1 = ((j : Nat) : Int) by omega] at s1
      refine (seq_nx (ite_k (x := .d (.bl false)) (cmp_ok (x := .d (.int y)) (y := .d (.int x)) (ix_ok (x := .d (tupI l)) (y := .d (.int (j + 1 : Nat))) (v_ok rfl) (v_ok rfl) (atI_I hy)) (ix_ok (x := .d (tupI l)) (y := .d (.int (j : Nat))) (v_ok rfl) (bin_ok (op := .Sub) (x := .d (.int (j + 1 : Nat))) (y := .d (.int 1)) (v_ok rfl) c_ok s1) (atI_I hx)) ?_) rfl)).trans pass_ok
      show some (decide (y < x)) = _
      rw [decide_eq_false (by omega)])
    (by unfold rng FUEL; simp; omega) ⟨x1, rfl, rfl⟩
  subst e1; subst e2
  refine (seq_nx (for_ok (c := .st (rng 1 l.length)) ?_ f2)).trans (seq_rt (ret_ok c_ok))
  have rg : rg2R (.d (.int 1)) (.d (.int l.length)) [] = .ok (.st (rng 1 l.length)) [] := by
    unfold rg2R
    simp only
    rw [if_pos ⟨by omega, by omega, by omega, by omega⟩]
  unfold kRg2
  rw [c_ok, ok_bind, bi_ok (cons_ok (v_ok rfl) nil_ok) (len_TI l []), ok_bind]
  exact rg
end
end K96
end

section
set_option Elab.async false
set_option linter.all false
set_option maxRecDepth 100000
set_option maxHeartbeats 4000000
open MP PySem
namespace K96
section
variable {k : Nat} {l m : List Int} {K : Nat}
theorem ps_zero (l : List Int) : IL (ps l 0) = List.replicate l.length (.int 1) := by
  refine List.eq_replicate_iff.mpr ⟨by unfold ps; simp, fun x hx => ?_⟩
  obtain ⟨a, ha, rfl⟩ := List.mem_map.mp hx
  obtain ⟨b, _, rfl⟩ := List.mem_map.mp ha
  exact congrArg D.int (Int.pow_zero b)
theorem turn2 {nm : DenT} {en en' : En} {d : D} {h h1 h2 : Hh} {b : DenS} {o : Fl} (a : nm en (.d d) h = .ok en' h1) (e : b en' h1 = .ok o h2) : ((nm en (.d d) h).bind fun en h => b en h) = .ok o h2 := by
  rw [a]; exact e
theorem power_ok (hl : l.length < 1000) (bl : ∀ x ∈ l, x.natAbs < 18446744073709551616) (h : Hh) : callD (runF cs fds (k + 1)) 2 [tupI l, .int 2] h = .ok (.d (tupI [pw l 0, pw l 1, pw l 2])) h := by
  refine fn_isH (e0 := [.lst (IL [pw l 0, pw l 1, pw l 2])]) i2 ⟨rfl, by decide⟩ (by rw [List.all_cons, nr_TI 38]; rfl) (show nrR (.d (tupI [pw l 0, pw l 1, pw l 2])) = true from nr_TI 38 _) ?_ h
  unfold b_power_sums
  simp only [dSs, dS, dE, dEs, dT, dTs, dI, dIf]
  have st : kAsg (kTp (kTcons (kNm 3) (kTcons (kNm 4) kTnil))) (kTup (kCons (kBin .Mult (kLst (kCons (kC (.int 1)) kNil)) (kBi .len (kCons (kV 0) kNil))) (kCons (kAl (kLst kNil)) kNil))) [some (tupI l), some (.int 2), none, none, none, none, none] [] =
      .ok (.nx [some (tupI l), some (.int 2), none, some (.lst (IL (ps l 0))), some (.ref 0), none, none]) [.lst []] := by
    rw [ps_zero]
    exact asg_ok (tup_ok (rs := [.fl (List.replicate l.length (.int 1)), .d (.ref 0)]) (cons_ok (bin_ok (x := .fl [.int 1]) (y := .d (.int l.length)) (lst_ok (rs := [.d (.int 1)]) (cons_ok c_ok nil_ok) ln1) (bi_ok (cons_ok (v_ok rfl) nil_ok) (len_TI l [])) (ones l.length hl [])) (cons_ok (al_ok (h1 := []) (ds := []) (lst_ok (rs := []) nil_ok ln0)) nil_ok)) ln2)
      (tp_ok (ds := [.lst (List.replicate l.length (.int 1)), .ref 0]) rfl (tcons_ok (nm_ok (lt_b rfl)) (tcons_ok (nm_ok (lt_b rfl)) tnil_ok)))
  refine (seq_nx st).trans ?_
  obtain ⟨en', h', fl, x2, e1, e2⟩ := for_ys (step := fun d en h => (kNm 2 en (.d d) h).bind fun en h => kSeq (kExp (kMeth .append (kV 4) (kCons (kBi .sum (kCons (kV 3) kNil)) kNil))) (kSeq (kAsg (kNm 3) (kLc (kBin .Mult (kV 5) (kV 6)) (kTp (kTcons (kNm 5) (kTcons (kNm 6) kTnil))) (kZp (kV 3) (kV 0)) kYes [5, 6])) kPass) en h)
    (fun j en h => ∃ x2, en = [some (tupI l), some (.int 2), x2, some (.lst (IL (ps l j))), some (.ref 0), none, none] ∧ h = [.lst (IL ((List.range j).map (pw l)))]) (nums 3) (.st (nums 3)) 0 FUEL [some (tupI l), some (.int 2), none, some (.lst (IL (ps l 0))), some (.ref 0), none, none] [.lst []] (Ys_st _)
    (by
      rintro j d hd en h ⟨x2, rfl, rfl⟩
      have hj : j < 3 := by
        have := (List.getElem?_eq_some_iff.mp hd).1
        simpa using this
      rw [Nat.zero_add]
      refine ⟨[some (tupI l), some (.int 2), some d, some (.lst (IL (ps l (j + 1)))), some (.ref 0), none, none], [.lst (IL ((List.range (j + 1)).map (pw l)))], turn2 (en' := [some (tupI l), some (.int 2), some d, some (.lst (IL (ps l j))), some (.ref 0), none, none]) (h1 := [.lst (IL ((List.range j).map (pw l)))]) (nm_ok (lt_b rfl)) ?_, some d, rfl, rfl⟩
      have ap := app_new [] (IL ((List.range j).map (pw l))) (.int (pw l j)) rfl (by simp; omega)
      rw [List.nil_append, List.nil_append, show IL ((List.range j).map (pw l)) ++ [D.int (pw l j)] = IL ((List.range (j + 1)).map (pw l)) from by rw [List.range_succ, List.map_append, IL, IL, List.map_append]; rfl] at ap
      refine (seq_nx (exp_ok (meth_ok (x := .d (.ref 0)) (l := IL ((List.range j).map (pw l))) (v_ok rfl) rfl (cons_ok (bi_ok (cons_ok (v_ok rfl) nil_ok) (sum_L _ _)) nil_ok) ap))).trans ?_
      exact seq_asg (pow_lc j l hl bl rfl rfl fun x y => ⟨tp_ok rfl (tcons_ok (nm_ok (lt_b rfl)) (tcons_ok (nm_ok (lt_b rfl)) tnil_ok)), rfl, rfl⟩) (lt_b rfl) pass_ok)
    (by simp [FUEL]) ⟨none, rfl, rfl⟩
  subst e1; subst e2
  refine (seq_nx (for_ok (c := .st (nums 3)) (rg_ok (n := 3) (bin_ok (op := .Add) (z := .d (.int 3)) (x := .d (.int 2)) (y := .d (.int 1)) (v_ok rfl) c_ok rfl) (by decide)) fl)).trans ?_
  exact seq_rt (ret_ok (bi_ok (cons_ok (v_ok rfl) nil_ok) rfl))
/-! ### four squares -/
def fr (a b c d p q r s : Int) : List (List Int) := [[a * p + b * q + c * r + d * s, a * r - b * s - c * p + d * q, -a * s - b * r + c * q + d * p, a * q - b * p + c * s - d * r],
  [-a * q + b * p + c * s - d * r, a * s + b * r + c * q + d * p, a * r - b * s + c * p - d * q, a * p + b * q - c * r - d * s],
  [a * r + b * s - c * p - d * q, -a * p + b * q - c * r + d * s, a * q + b * p + c * s + d * r, a * s - b * r - c * q + d * p],
  [-a * s + b * r - c * q + d * p, -a * q - b * p + c * s + d * r, -a * p + b * q + c * r - d * s, a * r + b * s + c * p + d * q]]
theorem fr_sum (a b c d p q r s : Int) : ∀ row ∈ fr a b c d p q r s, (row.map fun x => x * x).sum = (a * a + (b * b + (c * c + (d * d + 0)))) * (p * p + (q * q + (r * r + (s * s + 0)))) := by
  intro row h
  unfold fr at h
  simp only [List.mem_cons, List.not_mem_nil, or_false] at h
  rcases h with rfl | rfl | rfl | rfl <;> (simp only [List.map_cons, List.map_nil, List.sum_cons, List.sum_nil]; grind)
end
end K96
end

section
set_option Elab.async false
set_option linter.all false
set_option maxRecDepth 100000
set_option maxHeartbeats 4000000
open MP PySem
namespace K96
theorem i12 : IsFn fds 12 b_four_rows 2 10 := ⟨f_four_rows, rfl, rfl, rfl, rfl, rfl⟩
theorem i13 : IsFn fds 13 b_four_sum 1 2 := ⟨f_four_sum, rfl, rfl, rfl, rfl, rfl⟩
theorem ln4 : line 4 = true := line_lt (by decide)
def rowsT (ls : List (List Int)) : D := .tup (ls.map tupI)
theorem nr_rows (k : Nat) (ls : List (List Int)) : nr (k + 3) (rowsT ls) = true := List.all_eq_true.mpr fun d hd => by obtain ⟨a, _, rfl⟩ := List.mem_map.mp hd; exact nr_TI k a
theorem four_call {k : Nat} {a b c d : Int} (p q r s : Int) (ha : a.natAbs < 100) (hb : b.natAbs < 100) (hc : c.natAbs < 100) (hd : d.natAbs < 100) (h : Hh) : callD (runF cs fds (k + 1)) 12 [tupI [a, b, c, d], tupI [p, q, r, s]] h = .ok (.d (rowsT (fr a b c d p q r s))) h := by
  refine fn_is i12 ⟨rfl, by decide⟩ (by rw [List.all_cons, nr_TI 38, List.all_cons, nr_TI 38]; rfl) (show nrR (.d (rowsT (fr a b c d p q r s))) = true from nr_rows 37 _) ?_ h
  unfold b_four_rows
  simp only [dSs, dS, dE, dEs, dT, dTs, dI, dIf]
  refine (seq_nx (en' := [some (tupI [a, b, c, d]), some (tupI [p, q, r, s]), some (.int a), some (.int b), some (.int c), some (.int d), none, none, none, none]) (h' := []) (asg_ok (r := .d (tupI [a, b, c, d])) (v_ok rfl) (tp_ok (ds := IL [a, b, c, d]) rfl (tcons_ok (nm_ok (lt_b rfl)) (tcons_ok (nm_ok (lt_b rfl)) (tcons_ok (nm_ok (lt_b rfl)) (tcons_ok (nm_ok (lt_b rfl)) tnil_ok))))))).trans ?_
  refine (seq_nx (en' := [some (tupI [a, b, c, d]), some (tupI [p, q, r, s]), some (.int a), some (.int b), some (.int c), some (.int d), some (.int p), some (.int q), some (.int r), some (.int s)]) (h' := []) (asg_ok (r := .d (tupI [p, q, r, s])) (v_ok rfl) (tp_ok (ds := IL [p, q, r, s]) rfl (tcons_ok (nm_ok (lt_b rfl)) (tcons_ok (nm_ok (lt_b rfl)) (tcons_ok (nm_ok (lt_b rfl)) (tcons_ok (nm_ok (lt_b rfl)) tnil_ok))))))).trans ?_
  exact seq_rt (ret_ok (tup_ok (cons_ok (tup_ok (rs := [.d (.int ((((a * p) + (b * q)) + (c * r)) + (d * s))), .d (.int ((((a * r) - (b * s)) - (c * p)) + (d * q))), .d (.int (((((-a) * s) - (b * r)) + (c * q)) + (d * p))), .d (.int ((((a * q) - (b * p)) + (c * s)) - (d * r)))]) (cons_ok (bin_ok (op := .Add) (x := .d (.int (((a * p) + (b * q)) + (c * r)))) (y := .d (.int (d * s))) (bin_ok (op := .Add) (x := .d (.int ((a * p) + (b * q)))) (y := .d (.int (c * r))) (bin_ok (op := .Add) (x := .d (.int (a * p))) (y := .d (.int (b * q))) (bin_ok (op := .Mult) (x := .d (.int a)) (y := .d (.int p)) (v_ok rfl) (v_ok rfl) (mul_lo a p [] (by omega))) (bin_ok (op := .Mult) (x := .d (.int b)) (y := .d (.int q)) (v_ok rfl) (v_ok rfl) (mul_lo b q [] (by omega))) (add_i (a * p) (b * q) [])) (bin_ok (op := .Mult) (x := .d (.int c)) (y := .d (.int r)) (v_ok rfl) (v_ok rfl) (mul_lo c r [] (by omega))) (add_i ((a * p) + (b * q)) (c * r) [])) (bin_ok (op := .Mult) (x := .d (.int d)) (y := .d (.int s)) (v_ok rfl) (v_ok rfl) (mul_lo d s [] (by omega))) (add_i (((a * p) + (b * q)) + (c * r)) (d * s) [])) (cons_ok (bin_ok (op := .Add) (x := .d (.int (((a * r) - (b * s)) - (c * p)))) (y := .d (.int (d * q))) (bin_ok (op := .Sub) (x := .d (.int ((a * r) - (b * s)))) (y := .d (.int (c * p))) (bin_ok (op := .Sub) (x := .d (.int (a * r))) (y := .d (.int (b * s))) (bin_ok (op := .Mult) (x := .d (.int a)) (y := .d (.int r)) (v_ok rfl) (v_ok rfl) (mul_lo a r [] (by omega))) (bin_ok (op := .Mult) (x := .d (.int b)) (y := .d (.int s)) (v_ok rfl) (v_ok rfl) (mul_lo b s [] (by omega))) (sub_i (a * r) (b * s) [])) (bin_ok (op := .Mult) (x := .d (.int c)) (y := .d (.int p)) (v_ok rfl) (v_ok rfl) (mul_lo c p [] (by omega))) (sub_i ((a * r) - (b * s)) (c * p) [])) (bin_ok (op := .Mult) (x := .d (.int d)) (y := .d (.int q)) (v_ok rfl) (v_ok rfl) (mul_lo d q [] (by omega))) (add_i (((a * r) - (b * s)) - (c * p)) (d * q) [])) (cons_ok (bin_ok (op := .Add) (x := .d (.int ((((-a) * s) - (b * r)) + (c * q)))) (y := .d (.int (d * p))) (bin_ok (op := .Add) (x := .d (.int (((-a) * s) - (b * r)))) (y := .d (.int (c * q))) (bin_ok (op := .Sub) (x := .d (.int ((-a) * s))) (y := .d (.int (b * r))) (bin_ok (op := .Mult) (x := .d (.int (-a))) (y := .d (.int s)) (neg_ok (v_ok rfl)) (v_ok rfl) (mul_lo (-a) s [] (by omega))) (bin_ok (op := .Mult) (x := .d (.int b)) (y := .d (.int r)) (v_ok rfl) (v_ok rfl) (mul_lo b r [] (by omega))) (sub_i ((-a) * s) (b * r) [])) (bin_ok (op := .Mult) (x := .d (.int c)) (y := .d (.int q)) (v_ok rfl) (v_ok rfl) (mul_lo c q [] (by omega))) (add_i (((-a) * s) - (b * r)) (c * q) [])) (bin_ok (op := .Mult) (x := .d (.int d)) (y := .d (.int p)) (v_ok rfl) (v_ok rfl) (mul_lo d p [] (by omega))) (add_i ((((-a) * s) - (b * r)) + (c * q)) (d * p) [])) (cons_ok (bin_ok (op := .Sub) (x := .d (.int (((a * q) - (b * p)) + (c * s)))) (y := .d (.int (d * r))) (bin_ok (op := .Add) (x := .d (.int ((a * q) - (b * p)))) (y := .d (.int (c * s))) (bin_ok (op := .Sub) (x := .d (.int (a * q))) (y := .d (.int (b * p))) (bin_ok (op := .Mult) (x := .d (.int a)) (y := .d (.int q)) (v_ok rfl) (v_ok rfl) (mul_lo a q [] (by omega))) (bin_ok (op := .Mult) (x := .d (.int b)) (y := .d (.int p)) (v_ok rfl) (v_ok rfl) (mul_lo b p [] (by omega))) (sub_i (a * q) (b * p) [])) (bin_ok (op := .Mult) (x := .d (.int c)) (y := .d (.int s)) (v_ok rfl) (v_ok rfl) (mul_lo c s [] (by omega))) (add_i ((a * q) - (b * p)) (c * s) [])) (bin_ok (op := .Mult) (x := .d (.int d)) (y := .d (.int r)) (v_ok rfl) (v_ok rfl) (mul_lo d r [] (by omega))) (sub_i (((a * q) - (b * p)) + (c * s)) (d * r) [])) nil_ok)))) ln4) (cons_ok (tup_ok (rs := [.d (.int (((((-a) * q) + (b * p)) + (c * s)) - (d * r))), .d (.int ((((a * s) + (b * r)) + (c * q)) + (d * p))), .d (.int ((((a * r) - (b * s)) + (c * p)) - (d * q))), .d (.int ((((a * p) + (b * q)) - (c * r)) - (d * s)))]) (cons_ok (bin_ok (op := .Sub) (x := .d (.int ((((-a) * q) + (b * p)) + (c * s)))) (y := .d (.int (d * r))) (bin_ok (op := .Add) (x := .d (.int (((-a) * q) + (b * p)))) (y := .d (.int (c * s))) (bin_ok (op := .Add) (x := .d (.int ((-a) * q))) (y := .d (.int (b * p))) (bin_ok (op := .Mult) (x := .d (.int (-a))) (y := .d (.int q)) (neg_ok (v_ok rfl)) (v_ok rfl) (mul_lo (-a) q [] (by omega))) (bin_ok (op := .Mult) (x := .d (.int b)) (y := .d (.int p)) (v_ok rfl) (v_ok rfl) (mul_lo b p [] (by omega))) (add_i ((-a) * q) (b * p) [])) (bin_ok (op := .Mult) (x := .d (.int c)) (y := .d (.int s)) (v_ok rfl) (v_ok rfl) (mul_lo c s [] (by omega))) (add_i (((-a) * q) + (b * p)) (c * s) [])) (bin_ok (op := .Mult) (x := .d (.int d)) (y := .d (.int r)) (v_ok rfl) (v_ok rfl) (mul_lo d r [] (by omega))) (sub_i ((((-a) * q) + (b * p)) + (c * s)) (d * r) [])) (cons_ok (bin_ok (op := .Add) (x := .d (.int (((a * s) + (b * r)) + (c * q)))) (y := .d (.int (d * p))) (bin_ok (op := .Add) (x := .d (.int ((a * s) + (b * r)))) (y := .d (.int (c * q))) (bin_ok (op := .Add) (x := .d (.int (a * s))) (y := .d (.int (b * r))) (bin_ok (op := .Mult) (x := .d (.int a)) (y := .d (.int s)) (v_ok rfl) (v_ok rfl) (mul_lo a s [] (by omega))) (bin_ok (op := .Mult) (x := .d (.int b)) (y := .d (.int r)) (v_ok rfl) (v_ok rfl) (mul_lo b r [] (by omega))) (add_i (a * s) (b * r) [])) (bin_ok (op := .Mult) (x := .d (.int c)) (y := .d (.int q)) (v_ok rfl) (v_ok rfl) (mul_lo c q [] (by omega))) (add_i ((a * s) + (b * r)) (c * q) [])) (bin_ok (op := .Mult) (x := .d (.int d)) (y := .d (.int p)) (v_ok rfl) (v_ok rfl) (mul_lo d p [] (by omega))) (add_i (((a * s) + (b * r)) + (c * q)) (d * p) [])) (cons_ok (bin_ok (op := .Sub) (x := .d (.int (((a * r) - (b * s)) + (c * p)))) (y := .d (.int (d * q))) (bin_ok (op := .Add) (x := .d (.int ((a * r) - (b * s)))) (y := .d (.int (c * p))) (bin_ok (op := .Sub) (x := .d (.int (a * r))) (y := .d (.int (b * s))) (bin_ok (op := .Mult) (x := .d (.int a)) (y := .d (.int r)) (v_ok rfl) (v_ok rfl) (mul_lo a r [] (by omega))) (bin_ok (op := .Mult) (x := .d (.int b)) (y := .d (.int s)) (v_ok rfl) (v_ok rfl) (mul_lo b s [] (by omega))) (sub_i (a * r) (b * s) [])) (bin_ok (op := .Mult) (x := .d (.int c)) (y := .d (.int p)) (v_ok rfl) (v_ok rfl) (mul_lo c p [] (by omega))) (add_i ((a * r) - (b * s)) (c * p) [])) (bin_ok (op := .Mult) (x := .d (.int d)) (y := .d (.int q)) (v_ok rfl) (v_ok rfl) (mul_lo d q [] (by omega))) (sub_i (((a * r) - (b * s)) + (c * p)) (d * q) [])) (cons_ok (bin_ok (op := .Sub) (x := .d (.int (((a * p) + (b * q)) - (c * r)))) (y := .d (.int (d * s))) (bin_ok (op := .Sub) (x := .d (.int ((a * p) + (b * q)))) (y := .d (.int (c * r))) (bin_ok (op := .Add) (x := .d (.int (a * p))) (y := .d (.int (b * q))) (bin_ok (op := .Mult) (x := .d (.int a)) (y := .d (.int p)) (v_ok rfl) (v_ok rfl) (mul_lo a p [] (by omega))) (bin_ok (op := .Mult) (x := .d (.int b)) (y := .d (.int q)) (v_ok rfl) (v_ok rfl) (mul_lo b q [] (by omega))) (add_i (a * p) (b * q) [])) (bin_ok (op := .Mult) (x := .d (.int c)) (y := .d (.int r)) (v_ok rfl) (v_ok rfl) (mul_lo c r [] (by omega))) (sub_i ((a * p) + (b * q)) (c * r) [])) (bin_ok (op := .Mult) (x := .d (.int d)) (y := .d (.int s)) (v_ok rfl) (v_ok rfl) (mul_lo d s [] (by omega))) (sub_i (((a * p) + (b * q)) - (c * r)) (d * s) [])) nil_ok)))) ln4) (cons_ok (tup_ok (rs := [.d (.int ((((a * r) + (b * s)) - (c * p)) - (d * q))), .d (.int (((((-a) * p) + (b * q)) - (c * r)) + (d * s))), .d (.int ((((a * q) + (b * p)) + (c * s)) + (d * r))), .d (.int ((((a * s) - (b * r)) - (c * q)) + (d * p)))]) (cons_ok (bin_ok (op := .Sub) (x := .d (.int (((a * r) + (b * s)) - (c * p)))) (y := .d (.int (d * q))) (bin_ok (op := .Sub) (x := .d (.int ((a * r) + (b * s)))) (y := .d (.int (c * p))) (bin_ok (op := .Add) (x := .d (.int (a * r))) (y := .d (.int (b * s))) (bin_ok (op := .Mult) (x := .d (.int a)) (y := .d (.int r)) (v_ok rfl) (v_ok rfl) (mul_lo a r [] (by omega))) (bin_ok (op := .Mult) (x := .d (.int b)) (y := .d (.int s)) (v_ok rfl) (v_ok rfl) (mul_lo b s [] (by omega))) (add_i (a * r) (b * s) [])) (bin_ok (op := .Mult) (x := .d (.int c)) (y := .d (.int p)) (v_ok rfl) (v_ok rfl) (mul_lo c p [] (by omega))) (sub_i ((a * r) + (b * s)) (c * p) [])) (bin_ok (op := .Mult) (x := .d (.int d)) (y := .d (.int q)) (v_ok rfl) (v_ok rfl) (mul_lo d q [] (by omega))) (sub_i (((a * r) + (b * s)) - (c * p)) (d * q) [])) (cons_ok (bin_ok (op := .Add) (x := .d (.int ((((-a) * p) + (b * q)) - (c * r)))) (y := .d (.int (d * s))) (bin_ok (op := .Sub) (x := .d (.int (((-a) * p) + (b * q)))) (y := .d (.int (c * r))) (bin_ok (op := .Add) (x := .d (.int ((-a) * p))) (y := .d (.int (b * q))) (bin_ok (op := .Mult) (x := .d (.int (-a))) (y := .d (.int p)) (neg_ok (v_ok rfl)) (v_ok rfl) (mul_lo (-a) p [] (by omega))) (bin_ok (op := .Mult) (x := .d (.int b)) (y := .d (.int q)) (v_ok rfl) (v_ok rfl) (mul_lo b q [] (by omega))) (add_i ((-a) * p) (b * q) [])) (bin_ok (op := .Mult) (x := .d (.int c)) (y := .d (.int r)) (v_ok rfl) (v_ok rfl) (mul_lo c r [] (by omega))) (sub_i (((-a) * p) + (b * q)) (c * r) [])) (bin_ok (op := .Mult) (x := .d (.int d)) (y := .d (.int s)) (v_ok rfl) (v_ok rfl) (mul_lo d s [] (by omega))) (add_i ((((-a) * p) + (b * q)) - (c * r)) (d * s) [])) (cons_ok (bin_ok (op := .Add) (x := .d (.int (((a * q) + (b * p)) + (c * s)))) (y := .d (.int (d * r))) (bin_ok (op := .Add) (x := .d (.int ((a * q) + (b * p)))) (y := .d (.int (c * s))) (bin_ok (op := .Add) (x := .d (.int (a * q))) (y := .d (.int (b * p))) (bin_ok (op := .Mult) (x := .d (.int a)) (y := .d (.int q)) (v_ok rfl) (v_ok rfl) (mul_lo a q [] (by omega))) (bin_ok (op := .Mult) (x := .d (.int b)) (y := .d (.int p)) (v_ok rfl) (v_ok rfl) (mul_lo b p [] (by omega))) (add_i (a * q) (b * p) [])) (bin_ok (op := .Mult) (x := .d (.int c)) (y := .d (.int s)) (v_ok rfl) (v_ok rfl) (mul_lo c s [] (by omega))) (add_i ((a * q) + (b * p)) (c * s) [])) (bin_ok (op := .Mult) (x := .d (.int d)) (y := .d (.int r)) (v_ok rfl) (v_ok rfl) (mul_lo d r [] (by omega))) (add_i (((a * q) + (b * p)) + (c * s)) (d * r) [])) (cons_ok (bin_ok (op := .Add) (x := .d (.int (((a * s) - (b * r)) - (c * q)))) (y := .d (.int (d * p))) (bin_ok (op := .Sub) (x := .d (.int ((a * s) - (b * r)))) (y := .d (.int (c * q))) (bin_ok (op := .Sub) (x := .d (.int (a * s))) (y := .d (.int (b * r))) (bin_ok (op := .Mult) (x := .d (.int a)) (y := .d (.int s)) (v_ok rfl) (v_ok rfl) (mul_lo a s [] (by omega))) (bin_ok (op := .Mult) (x := .d (.int b)) (y := .d (.int r)) (v_ok rfl) (v_ok rfl) (mul_lo b r [] (by omega))) (sub_i (a * s) (b * r) [])) (bin_ok (op := .Mult) (x := .d (.int c)) (y := .d (.int q)) (v_ok rfl) (v_ok rfl) (mul_lo c q [] (by omega))) (sub_i ((a * s) - (b * r)) (c * q) [])) (bin_ok (op := .Mult) (x := .d (.int d)) (y := .d (.int p)) (v_ok rfl) (v_ok rfl) (mul_lo d p [] (by omega))) (add_i (((a * s) - (b * r)) - (c * q)) (d * p) [])) nil_ok)))) ln4) (cons_ok (tup_ok (rs := [.d (.int (((((-a) * s) + (b * r)) - (c * q)) + (d * p))), .d (.int (((((-a) * q) - (b * p)) + (c * s)) + (d * r))), .d (.int (((((-a) * p) + (b * q)) + (c * r)) - (d * s))), .d (.int ((((a * r) + (b * s)) + (c * p)) + (d * q)))]) (cons_ok (bin_ok (op := .Add) (x := .d (.int ((((-a) * s) + (b * r)) - (c * q)))) (y := .d (.int (d * p))) (bin_ok (op := .Sub) (x := .d (.int (((-a) * s) + (b * r)))) (y := .d (.int (c * q))) (bin_ok (op := .Add) (x := .d (.int ((-a) * s))) (y := .d (.int (b * r))) (bin_ok (op := .Mult) (x := .d (.int (-a))) (y := .d (.int s)) (neg_ok (v_ok rfl)) (v_ok rfl) (mul_lo (-a) s [] (by omega))) (bin_ok (op := .Mult) (x := .d (.int b)) (y := .d (.int r)) (v_ok rfl) (v_ok rfl) (mul_lo b r [] (by omega))) (add_i ((-a) * s) (b * r) [])) (bin_ok (op := .Mult) (x := .d (.int c)) (y := .d (.int q)) (v_ok rfl) (v_ok rfl) (mul_lo c q [] (by omega))) (sub_i (((-a) * s) + (b * r)) (c * q) [])) (bin_ok (op := .Mult) (x := .d (.int d)) (y := .d (.int p)) (v_ok rfl) (v_ok rfl) (mul_lo d p [] (by omega))) (add_i ((((-a) * s) + (b * r)) - (c * q)) (d * p) [])) (cons_ok (bin_ok (op := .Add) (x := .d (.int ((((-a) * q) - (b * p)) + (c * s)))) (y := .d (.int (d * r))) (bin_ok (op := .Add) (x := .d (.int (((-a) * q) - (b * p)))) (y := .d (.int (c * s))) (bin_ok (op := .Sub) (x := .d (.int ((-a) * q))) (y := .d (.int (b * p))) (bin_ok (op := .Mult) (x := .d (.int (-a))) (y := .d (.int q)) (neg_ok (v_ok rfl)) (v_ok rfl) (mul_lo (-a) q [] (by omega))) (bin_ok (op := .Mult) (x := .d (.int b)) (y := .d (.int p)) (v_ok rfl) (v_ok rfl) (mul_lo b p [] (by omega))) (sub_i ((-a) * q) (b * p) [])) (bin_ok (op := .Mult) (x := .d (.int c)) (y := .d (.int s)) (v_ok rfl) (v_ok rfl) (mul_lo c s [] (by omega))) (add_i (((-a) * q) - (b * p)) (c * s) [])) (bin_ok (op := .Mult) (x := .d (.int d)) (y := .d (.int r)) (v_ok rfl) (v_ok rfl) (mul_lo d r [] (by omega))) (add_i ((((-a) * q) - (b * p)) + (c * s)) (d * r) [])) (cons_ok (bin_ok (op := .Sub) (x := .d (.int ((((-a) * p) + (b * q)) + (c * r)))) (y := .d (.int (d * s))) (bin_ok (op := .Add) (x := .d (.int (((-a) * p) + (b * q)))) (y := .d (.int (c * r))) (bin_ok (op := .Add) (x := .d (.int ((-a) * p))) (y := .d (.int (b * q))) (bin_ok (op := .Mult) (x := .d (.int (-a))) (y := .d (.int p)) (neg_ok (v_ok rfl)) (v_ok rfl) (mul_lo (-a) p [] (by omega))) (bin_ok (op := .Mult) (x := .d (.int b)) (y := .d (.int q)) (v_ok rfl) (v_ok rfl) (mul_lo b q [] (by omega))) (add_i ((-a) * p) (b * q) [])) (bin_ok (op := .Mult) (x := .d (.int c)) (y := .d (.int r)) (v_ok rfl) (v_ok rfl) (mul_lo c r [] (by omega))) (add_i (((-a) * p) + (b * q)) (c * r) [])) (bin_ok (op := .Mult) (x := .d (.int d)) (y := .d (.int s)) (v_ok rfl) (v_ok rfl) (mul_lo d s [] (by omega))) (sub_i ((((-a) * p) + (b * q)) + (c * r)) (d * s) [])) (cons_ok (bin_ok (op := .Add) (x := .d (.int (((a * r) + (b * s)) + (c * p)))) (y := .d (.int (d * q))) (bin_ok (op := .Add) (x := .d (.int ((a * r) + (b * s)))) (y := .d (.int (c * p))) (bin_ok (op := .Add) (x := .d (.int (a * r))) (y := .d (.int (b * s))) (bin_ok (op := .Mult) (x := .d (.int a)) (y := .d (.int r)) (v_ok rfl) (v_ok rfl) (mul_lo a r [] (by omega))) (bin_ok (op := .Mult) (x := .d (.int b)) (y := .d (.int s)) (v_ok rfl) (v_ok rfl) (mul_lo b s [] (by omega))) (add_i (a * r) (b * s) [])) (bin_ok (op := .Mult) (x := .d (.int c)) (y := .d (.int p)) (v_ok rfl) (v_ok rfl) (mul_lo c p [] (by omega))) (add_i ((a * r) + (b * s)) (c * p) [])) (bin_ok (op := .Mult) (x := .d (.int d)) (y := .d (.int q)) (v_ok rfl) (v_ok rfl) (mul_lo d q [] (by omega))) (add_i (((a * r) + (b * s)) + (c * p)) (d * q) [])) nil_ok)))) ln4) nil_ok)))) ln4))
/-- the sum of squares of a row -/
theorem fsum_call {k : Nat} (l : List Int) (hl : l.length < 1000) (bl : ∀ x ∈ l, x.natAbs < 18446744073709551616) (h : Hh) : callD (runF cs fds (k + 1)) 13 [tupI l] h = .ok (.d (.int (l.map fun x => x * x).sum)) h := by
  refine fn_is i13 ⟨rfl, by decide⟩ (by rw [List.all_cons, nr_TI 38]; rfl) rfl ?_ h
  unfold b_four_sum
  simp only [dSs, dS, dE, dEs, dT, dTs, dI, dIf]
  have lc := kLc_all2 (elt := kBin .Mult (kV 1) (kV 1)) (tg := kNm 1) (it := kIe (kV 0)) (ifs := kYes) (own := [1]) (en := [some (tupI l), none]) (h := []) (h1 := []) (c := .st (IL l)) (ds := IL l) (xs := IL (l.map fun x => x * x)) (ie_ok (r := .d (tupI l)) (v_ok rfl) (cur_tup _ _)) (Ys_st _) (by
    have z := All2.map (P := fun d x => kTurn (kBin .Mult (kV 1) (kV 1)) (kNm 1) kYes (wipeE [some (tupI l), none] [1]) d [] = .ok (some x) []) (f := fun x : Int => D.int x) (g := fun x : Int => D.int (x * x)) (l := l) fun x hx =>
      turn_ok (r := .d (.int (x * x))) (en1 := [some (tupI l), some (.int x)]) (h1 := []) (h2 := []) (nm_ok (lt_b rfl)) yes_ok (bin_ok (op := .Mult) (x := .d (.int x)) (y := .d (.int x)) (v_ok rfl) (v_ok rfl) (mul_lo x x [] (bl x hx)))
    rw [show IL (l.map fun x => x * x) = l.map fun x : Int => D.int (x * x) from List.map_map ..]
    exact z) (by rw [len_I]; unfold FUEL; omega)
  exact seq_rt (ret_ok (bi_ok (cons_ok lc nil_ok) (sum_I _ [])))
end K96
end

section
set_option Elab.async false
set_option linter.all false
set_option maxRecDepth 100000
set_option maxHeartbeats 4000000
open MP PySem
namespace K96
theorem i14 : IsFn fds 14 b_squared_square 1 3 := ⟨f_squared_square, rfl, rfl, rfl, rfl, rfl⟩
theorem i15 : IsFn fds 15 b_is_twice_even 1 4 := ⟨f_is_twice_even, rfl, rfl, rfl, rfl, rfl⟩
section
variable {k : Nat}
theorem lsums (n : Nat) (hn : n < 1000) (c : Nat → Nat → Int) (h : Hh) : callD (runF cs fds (k + 2)) 24 [sqF n c] h = .ok (.fl (sumsL n c)) h :=
  lineSums_call (k := k) (fd := f__law_line_sums) (f := 23) (fl := f__law_lines) rfl rfl rfl rfl rfl rfl rfl rfl rfl rfl n hn c h
theorem sums (n : Nat) (hn : n < 1000) (c : Nat → Nat → Int) (h : Hh) : callD (runF cs fds (k + 1)) 10 [sqF n c] h = .ok (.d (sumsT n c)) h :=
  sums_call (k := k) (fd := f_line_sums) rfl rfl rfl rfl rfl n hn c h
theorem even (n : Nat) (hn : n < 1000) (c : Nat → Nat → Int) (h : Hh) : callD (runF cs fds (k + 2)) 11 [sqF n c] h = .ok (.d (.bl (evenB n c))) h :=
  even_call (k := k) (fd := f_is_even_square) (f := 10) (fl := f_line_sums) rfl rfl rfl rfl rfl rfl rfl rfl rfl rfl n hn c h
theorem squared {n : Nat} (hn : n < 1000) {c : Nat → Nat → Int} {B : Nat} (bd : Bd n c B) (hB : B < 18446744073709551616) (h : Hh) : callD (runF cs fds (k + 1)) 14 [sqF n c] h = .ok (.d (sqF n fun i j => c i j * c i j)) h := by
  refine fn_is i14 ⟨rfl, by decide⟩ (by rw [List.all_cons, nr_sq 37]; rfl) (show nrR (.d (sqF n fun i j => c i j * c i j)) = true from nr_sq 37 n _) ?_ h
  unfold b_squared_square
  simp only [dSs, dS, dE, dEs, dT, dTs, dI, dIf]
  exact seq_rt (ret_ok (sq_comp (fun i j => c i j * c i j) hn (ie_ok (v_ok rfl) (cur_sq n c _)) (Ys_st _) (fun i hi => nm_ok (lt_b rfl)) (fun i hi => ie_ok (v_ok rfl) (cur_row n (c i) _)) (fun i hi => Ys_st _) (fun i j hi hj => nm_ok (lt_b rfl)) fun i l hi hl =>
    bin_ok (x := .d (.int (c i l))) (y := .d (.int (c i l))) (v_ok rfl) (v_ok rfl) (mul_lo _ _ [] (by have := bd i l hi hl; omega))))
theorem twice {n : Nat} (hn : n < 1000) {c : Nat → Nat → Int} {B : Nat} (bd : Bd n c B) (hB : B < 18446744073709551616) (h : Hh) : callD (runF cs fds (k + 3)) 15 [sqF n c] h = .ok (.d (.bl (evenB n c && evenB n fun i j => c i j * c i j))) h := by
  refine fn_is i15 ⟨rfl, by decide⟩ (by rw [List.all_cons, nr_sq 37]; rfl) rfl ?_ h
  unfold b_is_twice_even
  simp only [dSs, dS, dE, dEs, dT, dTs, dI, dIf]
  obtain ⟨q, hq⟩ : ∃ q : Nat → Nat → Int, q = fun i j => c i j * c i j := ⟨_, rfl⟩
  have sq := squared (k := k + 1) hn bd hB []
  rw [← hq] at sq ⊢
  have s1 : kAsg (kTp (kTcons (kNm 1) (kTcons (kNm 2) (kTcons (kNm 3) kTnil)))) (kCall (runF cs fds (k + 2)) 10 (kCons (kCall (runF cs fds (k + 2)) 14 (kCons (kV 0) kNil) kNil [0]) kNil) kNil [0]) [some (sqF n c), none, none, none] [] =
      .ok (.nx [some (sqF n c), some (rowF n fun i => sm n (q i)), some (rowF n fun j => sm n fun i => q i j), some (.tup [.int (sm n fun i => q i i), .int (sm n fun i => q i (n - 1 - i))])]) [] :=
    asg_ok (call_ok (xs := [.d (sqF n q)]) (cons_ok (call_ok (xs := [.d (sqF n c)]) (cons_ok (v_ok rfl) nil_ok) nil_ok rfl sq) nil_ok) nil_ok rfl (sums (k := k + 1) n hn q [])) (tp_ok rfl (tcons_ok (nm_ok (lt_b rfl)) (tcons_ok (nm_ok (lt_b rfl)) (tcons_ok (nm_ok (lt_b rfl)) tnil_ok))))
  refine (seq_nx s1).trans ?_
  have a1 := add_tt ((List.range n).map fun i => D.int (sm n (q i))) ((List.range n).map fun j => D.int (sm n fun i => q i j)) [] (by simp; omega)
  have a2 := add_tt (((List.range n).map fun i => D.int (sm n (q i))) ++ ((List.range n).map fun j => D.int (sm n fun i => q i j))) [.int (sm n fun i => q i i), .int (sm n fun i => q i (n - 1 - i))] [] (by simp; omega)
  have a3 : biD .lenset [.d (.tup (((List.range n).map fun i => D.int (sm n (q i))) ++ ((List.range n).map fun j => D.int (sm n fun i => q i j)) ++ [.int (sm n fun i => q i i), .int (sm n fun i => q i (n - 1 - i))]))] [] = some (.d (.int (dedup (allS n q)).length)) := by
    show bLenset _ [] = _
    unfold bLenset
    rw [show ints1 [.d (.tup (((List.range n).map fun i => D.int (sm n (q i))) ++ ((List.range n).map fun j => D.int (sm n fun i => q i j)) ++ [.int (sm n fun i => q i i), .int (sm n fun i => q i (n - 1 - i))]))] [] = some (allS n q) from intsD_app (intsD_app (intsD_tab n _) (intsD_tab n _)) rfl]
    show (if (allS n q).length ≤ 4000 then _ else none) = _
    rw [if_pos (by unfold allS; simp; omega)]
  have ev := even (k := k) n hn c []
  have e2 : kCmp .Eq (kBi .lenset (kCons (kBin .Add (kBin .Add (kV 1) (kV 2)) (kV 3)) kNil)) (kC (.int 1)) [some (sqF n c), some (rowF n fun i => sm n (q i)), some (rowF n fun j => sm n fun i => q i j), some (.tup [.int (sm n fun i => q i i), .int (sm n fun i => q i (n - 1 - i))])] [] = .ok (.d (.bl (evenB n q))) [] :=
    cmp_ok (x := .d (.int (dedup (allS n q)).length)) (y := .d (.int 1)) (bi_ok (cons_ok (bin_ok (bin_ok (v_ok rfl) (v_ok rfl) a1) (v_ok rfl) a2) nil_ok) a3) c_ok (eq_i _ _ [])
  have e1 := call_ok (cl := runF cs fds (k + 2)) (f := 11) (ks := kNil) (pm := [0]) (xs := [.d (sqF n c)]) (zs := [.d (sqF n c)]) (ys := []) (es := kCons (kV 0) kNil) (en := [some (sqF n c), some (rowF n fun i => sm n (q i)), some (rowF n fun j => sm n fun i => q i j), some (.tup [.int (sm n fun i => q i i), .int (sm n fun i => q i (n - 1 - i))])]) (h := []) (cons_ok (v_ok rfl) nil_ok) nil_ok rfl ev
  cases g : evenB n c with
  | true => rw [g] at e1; exact seq_rt (ret_ok (and_t e1 rfl e2))
  | false => rw [g] at e1; exact seq_rt (ret_ok (and_f e1 rfl))
end
theorem mem_step (σ : List Int) (k x : Int) (h : x ∈ σ ∨ x = k) : x ∈ PyProof.Rows.step_dedup σ k := by
  unfold PyProof.Rows.step_dedup
  split
  · rename_i g
    rcases h with h | rfl
    · exact h
    · first | exact g | simpa using g
  · rcases h with h | rfl
    · simp [h]
    · simp
theorem mem_fold : ∀ (l σ : List Int) (x : Int), (x ∈ σ ∨ x ∈ l) → x ∈ l.foldl PyProof.Rows.step_dedup σ
  | [], σ, x, h => by
    rcases h with h | h
    · exact h
    · exact nomatch h
  | a :: l, σ, x, h => by
    rw [List.foldl_cons]
    refine mem_fold l _ x ?_
    rcases h with h | h
    · exact .inl (mem_step σ a x (.inl h))
    · rcases List.mem_cons.mp h with h | h
      · exact .inl (mem_step σ a x (.inr h))
      · exact .inr h
/-- if all lines make the same -/
theorem dedup_one {l : List Int} (h : (dedup l).length = 1) : ∀ x ∈ l, ∀ y ∈ l, x = y := fun x hx y hy => by
  have h1 : x ∈ dedup l := mem_fold l [] x (.inr hx)
  have h2 : y ∈ dedup l := mem_fold l [] y (.inr hy)
  obtain ⟨z, hz⟩ := List.length_eq_one_iff.mp h
  rw [hz] at h1 h2
  rw [List.mem_singleton.mp h1, List.mem_singleton.mp h2]
theorem even_all {n : Nat} {c : Nat → Nat → Int} (h : evenB n c = true) : ∀ x ∈ allS n c, ∀ y ∈ allS n c, x = y := by
  refine dedup_one ?_
  unfold evenB at h
  have := of_decide_eq_true h
  omega
/-- what an even square's lines make -/
theorem even_ev {n : Nat} {c : Nat → Nat → Int} (h : evenB n c = true) (hn : 1 ≤ n) : Ev n c (sm n (c 0)) := by
  have all := even_all h
  have m0 : sm n (c 0) ∈ allS n c := List.mem_append.mpr (.inl (List.mem_append.mpr (.inl (List.mem_map.mpr ⟨0, List.mem_range.mpr hn, rfl⟩))))
  refine ⟨fun i hi => all _ (List.mem_append.mpr (.inl (List.mem_append.mpr (.inl (List.mem_map.mpr ⟨i, List.mem_range.mpr hi, rfl⟩))))) _ m0,
    fun j hj => all _ (List.mem_append.mpr (.inl (List.mem_append.mpr (.inr (List.mem_map.mpr ⟨j, List.mem_range.mpr hj, rfl⟩))))) _ m0,
    all _ (List.mem_append.mpr (.inr List.mem_cons_self)) _ m0, all _ (List.mem_append.mpr (.inr (List.mem_cons_of_mem _ List.mem_cons_self))) _ m0⟩
end K96
end

section
set_option Elab.async false
set_option linter.all false
set_option maxRecDepth 100000
set_option maxHeartbeats 4000000
open MP PySem
namespace K96
/-- the cells of all lines -/
def linesC (n : Nat) (c : Nat → Nat → Int) : List (List Int) := ((List.range n).map fun i => (List.range n).map fun j => c i j) ++ ((List.range n).map fun j => (List.range n).map fun i => c i j) ++ [(List.range n).map fun i => c i i, (List.range n).map fun i => c i (n - 1 - i)]
def enQ (x0 : D) (n : Nat) (c : Nat → Nat → Int) : En := [some x0, some (.ref 1), some (.int n), some (sqF n c), none, none, none, none, none, none, none, none, some (.lst (linesD n)), none, none, none, none, none, none, none, none, none, none, none, none]
theorem sorted_lines (x0 : D) (n : Nat) (hn : n < 1000) (c : Nat → Nat → Int) (h : Hh) :
    kLc (kBi .tup (kCons (kBi .srt (kCons (kLc (kIx (kIx (kV 3) (kV 23)) (kV 24)) (kTp (kTcons (kNm 23) (kTcons (kNm 24) kTnil))) (kIe (kV 21)) kYes [23, 24]) kNil)) kNil)) (kNm 21) (kIe (kV 12)) kYes [21] (enQ x0 n c) h = .ok (.fl ((linesC n c).map fun l => tupI (srtI l))) h := by
  have hF : n < FUEL := by unfold FUEL; omega
  have one : ∀ (g1 g2 : Nat → Nat) (ln : D), (∀ i, i < n → g1 i < n ∧ g2 i < n) → ln = .lst ((List.range n).map fun i => pr (g1 i : Nat) (g2 i : Nat)) → kTurn (kBi .tup (kCons (kBi .srt (kCons (kLc (kIx (kIx (kV 3) (kV 23)) (kV 24)) (kTp (kTcons (kNm 23) (kTcons (kNm 24) kTnil))) (kIe (kV 21)) kYes [23, 24]) kNil)) kNil)) (kNm 21) kYes
      (wipeE (enQ x0 n c) [21]) ln h = .ok (some (tupI (srtI ((List.range n).map fun i => c (g1 i) (g2 i))))) h := fun g1 g2 ln hg e => by
    subst e
    refine turn_ok (en1 := [some x0, some (.ref 1), some (.int n), some (sqF n c), none, none, none, none, none, none, none, none, some (.lst (linesD n)), none, none, none, none, none, none, none, none, some (.lst ((List.range n).map fun i => pr (g1 i : Nat) (g2 i : Nat))), none, none, none]) (r := .d (tupI (srtI ((List.range n).map fun i => c (g1 i) (g2 i))))) (nm_ok (lt_b rfl)) yes_ok ?_
    have e2 : ((List.range n).map fun i => D.int (c (g1 i) (g2 i))) = IL ((List.range n).map fun i => c (g1 i) (g2 i)) := (List.map_map ..).symm
    refine bi_ok (cons_ok (bi_ok (cons_ok (kLc_tab (g := fun i => pr (g1 i : Nat) (g2 i : Nat)) (fun i => D.int (c (g1 i) (g2 i))) (ie_ok (v_ok rfl) (cur_lst _ h)) hF fun i hi => ?_) nil_ok) (e2 ▸ srt_L _ (by simp; omega) h)) nil_ok) (tup_fl _ h)
    exact turn_ok (en1 := [some x0, some (.ref 1), some (.int n), some (sqF n c), none, none, none, none, none, none, none, none, some (.lst (linesD n)), none, none, none, none, none, none, none, none, some (.lst ((List.range n).map fun i => pr (g1 i : Nat) (g2 i : Nat))), none, some (.int (g1 i : Nat)), some (.int (g2 i : Nat))]) (r := .d (.int (c (g1 i) (g2 i)))) (tp_ok (ds := [.int (g1 i : Nat), .int (g2 i : Nat)]) rfl (tcons_ok (nm_ok (lt_b rfl)) (tcons_ok (nm_ok (lt_b rfl)) tnil_ok))) yes_ok
      (ix_ok (ix_ok (v_ok rfl) (v_ok rfl) (ix_sq (hg i hi).1 h)) (v_ok rfl) (ix_row (hg i hi).2 h))
  refine kLc_all2 (ie_ok (r := .d (.lst (linesD n))) (v_ok rfl) (cur_lst _ h)) (Ys_st _) ?_ (by unfold linesD rowsL colsL FUEL; simp; omega)
  unfold linesD linesC
  rw [List.map_append, List.map_append, List.map_map, List.map_map]
  refine .app (.app (.tab fun i hi => ?_) (.tab fun j hj => ?_)) (.cons ?_ (.cons ?_ .nil))
  · exact one (fun _ => i) (fun j => j) _ (fun j hj => ⟨hi, hj⟩) rfl
  · exact one (fun i => i) (fun _ => j) _ (fun i hi => ⟨hi, hj⟩) rfl
  · exact one (fun i => i) (fun i => i) _ (fun i hi => ⟨hi, hi⟩) rfl
  · refine one (fun i => i) (fun i => n - 1 - i) _ (fun i hi => ⟨hi, by omega⟩) ?_
    unfold riseL
    congr 1
    refine List.map_congr_left fun i hi => ?_
    have := List.mem_range.mp hi
    unfold pr
    rw [show ((n - 1 - i : Nat) : Int) = (n : Int) - 1 - (i : Nat) by omega]
/-- what is known of a line -/
structure Ln (n B : Nat) (S : Int) (l : List Int) : Prop where
  len : l.length = n
  bd : ∀ x ∈ l, x.natAbs ≤ B
  sum : pw l 1 = S
theorem pw_one (l : List Int) : pw l 1 = l.sum := by
  have := ps_one l
  unfold ps at this
  unfold pw
  rw [this]
theorem pw_two (l : List Int) : pw l 2 = (l.map fun x => x * x).sum := by
  unfold pw
  rw [List.map_congr_left fun x _ => show x ^ 2 = x * x by rw [Int.pow_succ, Int.pow_one]]
theorem lines_ok {n B : Nat} {c : Nat → Nat → Int} {S : Int} (ev : Ev n c S) (bd : Bd n c B) : ∀ l ∈ linesC n c, Ln n B S l := by
  have tab : ∀ (g : Nat → Int), sm n g = S → (∀ i, i < n → (g i).natAbs ≤ B) → Ln n B S ((List.range n).map g) := fun g e b => ⟨by simp, fun x hx => by
    obtain ⟨i, hi, rfl⟩ := List.mem_map.mp hx
    exact b i (List.mem_range.mp hi), by rw [pw_one]; exact e⟩
  intro l hl
  unfold linesC at hl
  rcases List.mem_append.mp hl with hl | hl
  · rcases List.mem_append.mp hl with hl | hl
    · obtain ⟨i, hi, rfl⟩ := List.mem_map.mp hl
      have hi := List.mem_range.mp hi
      exact tab _ (ev.row i hi) fun j hj => bd i j hi hj
    · obtain ⟨j, hj, rfl⟩ := List.mem_map.mp hl
      have hj := List.mem_range.mp hj
      exact tab _ (ev.col j hj) fun i hi => bd i j hi hj
  · rcases List.mem_cons.mp hl with rfl | hl
    · exact tab _ ev.fall fun i hi => bd i i hi hi
    · rcases List.mem_cons.mp hl with rfl | hl
      · exact tab _ ev.rise fun i hi => bd i _ hi (by omega)
      · exact nomatch hl
theorem pw_perm {l m : List Int} (p : l.Perm m) (k : Nat) : pw l k = pw m k := by
  unfold pw
  exact sum_perm (p.map _)
theorem Ln.srt {n B : Nat} {S : Int} {l : List Int} (h : Ln n B S l) : Ln n B S (srtI l) := ⟨by rw [(srt_perm l).length_eq]; exact h.len, fun x hx => h.bd x ((srt_perm l).mem_iff.mp hx), by rw [pw_perm (srt_perm l)]; exact h.sum⟩
end K96
end

section
set_option Elab.async false
set_option linter.all false
set_option maxRecDepth 100000
set_option maxHeartbeats 4000000
open MP PySem
namespace K96
theorem df_of {l m : List Int} (len : l.length = m.length) (sm : l.length < 1000) (al : Asc l) (am : Asc m) (bl : Bq l) (bm : Bq m) (ne : l ≠ m) : ∃ K, Df l m K := by
  obtain ⟨K, k1, kn, eq, df⟩ := first_diff len fun p => ne (asc_perm al am p)
  exact ⟨K, len, sm, ne, k1, kn, eq, df, fun x hx => by have := bl x hx; omega, fun x hx => by have := bm x hx; omega⟩
theorem Df.two {l m : List Int} {K : Nat} (d : Df l m K) (h : pw l 1 = pw m 1) : 2 ≤ K := by
  have := d.k1
  have := d.df
  by_cases e : K = 1
  · subst e; exact absurd h this
  · omega
theorem Df.three {l m : List Int} {K : Nat} (d : Df l m K) (h : pw l 1 = pw m 1) (h2 : pw l 2 = pw m 2) : 3 ≤ K := by
  have := d.two h
  have := d.df
  by_cases e : K = 2
  · subst e; exact absurd h2 this
  · omega
/-- the agreement of two sorted lists, as a value -/
inductive Ag (l m : List Int) : D → Prop where
  | eq (e : l = m) : Ag l m .non
  | ne {K : Nat} (d : Df l m K) : Ag l m (.int (K - 1 : Nat))
theorem ag_of {l m : List Int} (len : l.length = m.length) (sm : l.length < 1000) (al : Asc l) (am : Asc m) (bl : Bq l) (bm : Bq m) : ∃ d, Ag l m d := by
  by_cases e : l = m
  · exact ⟨_, .eq e⟩
  · obtain ⟨K, d⟩ := df_of len sm al am bl bm e
    exact ⟨_, .ne d⟩
theorem ag_agree {k : Nat} {l m : List Int} {d : D} (a : Ag l m d) (sm : l.length < 1000) (h : Hh) : callD (runF cs fds (k + 1)) 3 [tupI l, tupI m] h = .ok (.d d) h := by
  cases a with
  | eq e => subst e; exact agree_eq sm h
  | ne d => exact agree_ne d h
theorem ag_law {k : Nat} {l m : List Int} {d : D} (a : Ag l m d) (h : Hh) : callD (runF cs fds (k + 1)) 27 [tupI l, tupI m] h = .ok (.d d) h := by
  cases a with
  | eq e => subst e; exact lagree_eq h
  | ne d => exact lagree_ne d h
/-- squares of the cells of all lines -/
theorem lines_sq (n : Nat) (c : Nat → Nat → Int) : linesC n (fun i j => c i j * c i j) = (linesC n c).map fun l => l.map fun x => x * x := by
  unfold linesC
  rw [List.map_append, List.map_append, List.map_map, List.map_map]
  simp only [List.map_cons, List.map_nil, List.map_map, Function.comp_def]
theorem lines_two {n : Nat} {c : Nat → Nat → Int} {Q : Int} (ev : Ev n (fun i j => c i j * c i j) Q) : ∀ l ∈ linesC n c, pw l 2 = Q := by
  intro l hl
  have b : ∃ B, Bd n (fun i j => c i j * c i j) B := by
    refine ⟨((List.range n).map fun i => ((List.range n).map fun j => (c i j * c i j).natAbs).sum).sum, fun i j hi hj => ?_⟩
    have le : ∀ (L : List Nat) (x : Nat), x ∈ L → x ≤ L.sum := fun L => by
      induction L with
      | nil => intro x h; exact nomatch h
      | cons a L ih =>
        intro x h
        rw [List.sum_cons]
        rcases List.mem_cons.mp h with rfl | h
        · omega
        · have := ih x h; omega
    exact Nat.le_trans (le _ _ (List.mem_map.mpr ⟨j, List.mem_range.mpr hj, rfl⟩)) (le _ _ (List.mem_map.mpr ⟨i, List.mem_range.mpr hi, rfl⟩))
  obtain ⟨B, bd⟩ := b
  have := lines_ok ev bd (l.map fun x => x * x) (by rw [lines_sq]; exact List.mem_map.mpr ⟨l, hl, rfl⟩)
  have s := this.sum
  rw [pw_one] at s
  rw [pw_two]; exact s
end K96
end

section
set_option Elab.async false
set_option linter.all false
set_option maxRecDepth 100000
set_option maxHeartbeats 0
open MP PySem
namespace K96
abbrev cl13 : Cl := runF cs fds 13
structure DG (k : Nat) (A B C E : List Int) : Prop where
  lots : ∀ h, callD cl13 9 [.int 2, .int k] h = .ok (.d (rowsT [A, B])) h
  more : ∀ h, callD cl13 9 [.int 2, .int (k + 1 : Nat)] h = .ok (.d (rowsT [C, E])) h
  nb : ∀ h, callD cl13 4 [tupI A, tupI B, .int (2 * A.length : Nat)] h = .ok (.d (rowsT [C, E])) h
  a1 : ∀ h, callD cl13 3 [tupI A, tupI B] h = .ok (.d (.int k)) h
  a2 : ∀ h, callD cl13 3 [tupI C, tupI E] h = .ok (.d (.int (k + 1 : Nat))) h
  len : A.length < 100
  lc : C.length < 100
  le : E.length < 100
  bc : ∀ x ∈ C, x.natAbs < 1000
  be : ∀ x ∈ E, x.natAbs < 1000
def da0 : List Int := [0]
def db0 : List Int := [1]
def da1 : List Int := [0, 3]
def db1 : List Int := [1, 2]
def da2 : List Int := [0, 3, 5, 6]
def db2 : List Int := [1, 2, 4, 7]
def da3 : List Int := [0, 3, 5, 6, 9, 10, 12, 15]
def db3 : List Int := [1, 2, 4, 7, 8, 11, 13, 14]
def da4 : List Int := [0, 3, 5, 6, 9, 10, 12, 15, 17, 18, 20, 23, 24, 27, 29, 30]
def db4 : List Int := [1, 2, 4, 7, 8, 11, 13, 14, 16, 19, 21, 22, 25, 26, 28, 31]
def da5 : List Int := [0, 3, 5, 6, 9, 10, 12, 15, 17, 18, 20, 23, 24, 27, 29, 30, 33, 34, 36, 39, 40, 43, 45, 46, 48, 51, 53, 54, 57, 58, 60, 63]
def db5 : List Int := [1, 2, 4, 7, 8, 11, 13, 14, 16, 19, 21, 22, 25, 26, 28, 31, 32, 35, 37, 38, 41, 42, 44, 47, 49, 50, 52, 55, 56, 59, 61, 62]
theorem dg0 : DG 0 da0 db0 da1 db1 := ⟨fun h => callD_cl h rfl (by kernel_rfl), fun h => callD_cl h rfl (by kernel_rfl), fun h => callD_cl h (by kernel_rfl) (by kernel_rfl), fun h => callD_cl h (by kernel_rfl) (by kernel_rfl), fun h => callD_cl h (by kernel_rfl) (by kernel_rfl), by decide, by decide, by decide, by decide +kernel, by decide +kernel⟩
theorem dg1 : DG 1 da1 db1 da2 db2 := ⟨fun h => callD_cl h rfl (by kernel_rfl), fun h => callD_cl h rfl (by kernel_rfl), fun h => callD_cl h (by kernel_rfl) (by kernel_rfl), fun h => callD_cl h (by kernel_rfl) (by kernel_rfl), fun h => callD_cl h (by kernel_rfl) (by kernel_rfl), by decide, by decide, by decide, by decide +kernel, by decide +kernel⟩
theorem dg2 : DG 2 da2 db2 da3 db3 := ⟨fun h => callD_cl h rfl (by kernel_rfl), fun h => callD_cl h rfl (by kernel_rfl), fun h => callD_cl h (by kernel_rfl) (by kernel_rfl), fun h => callD_cl h (by kernel_rfl) (by kernel_rfl), fun h => callD_cl h (by kernel_rfl) (by kernel_rfl), by decide, by decide, by decide, by decide +kernel, by decide +kernel⟩
theorem dg3 : DG 3 da3 db3 da4 db4 := ⟨fun h => callD_cl h rfl (by kernel_rfl), fun h => callD_cl h rfl (by kernel_rfl), fun h => callD_cl h (by kernel_rfl) (by kernel_rfl), fun h => callD_cl h (by kernel_rfl) (by kernel_rfl), fun h => callD_cl h (by kernel_rfl) (by kernel_rfl), by decide, by decide, by decide, by decide +kernel, by decide +kernel⟩
theorem dg4 : DG 4 da4 db4 da5 db5 := ⟨fun h => callD_cl h rfl (by kernel_rfl), fun h => callD_cl h rfl (by kernel_rfl), fun h => callD_cl h (by kernel_rfl) (by kernel_rfl), fun h => callD_cl h (by kernel_rfl) (by kernel_rfl), fun h => callD_cl h (by kernel_rfl) (by kernel_rfl), by decide, by decide, by decide, by decide +kernel, by decide +kernel⟩
theorem dg (k : Nat) (h : k < 5) : ∃ A B C E, DG k A B C E := by
  have : k = 0 ∨ k = 1 ∨ k = 2 ∨ k = 3 ∨ k = 4 := by omega
  rcases this with rfl | rfl | rfl | rfl | rfl
  · exact ⟨_, _, _, _, dg0⟩
  · exact ⟨_, _, _, _, dg1⟩
  · exact ⟨_, _, _, _, dg2⟩
  · exact ⟨_, _, _, _, dg3⟩
  · exact ⟨_, _, _, _, dg4⟩
end K96
end

section
set_option Elab.async false
set_option linter.all false
set_option maxRecDepth 100000
set_option maxHeartbeats 0
open MP PySem
namespace K96
def T8 : List (List Int) := [[56, 34, 8, 57, 18, 47, 9, 31], [33, 20, 54, 48, 7, 29, 59, 10], [26, 43, 13, 23, 64, 38, 4, 49], [19, 5, 35, 30, 53, 12, 46, 60], [15, 25, 63, 2, 41, 24, 50, 40], [6, 55, 17, 11, 36, 58, 32, 45], [61, 16, 42, 52, 27, 1, 39, 22], [44, 62, 28, 37, 14, 51, 21, 3]]
def T9 : List (List Int) := [[1, 33, 62, 14, 43, 66, 27, 47, 76], [23, 52, 75, 9, 29, 58, 10, 42, 71], [18, 38, 67, 19, 51, 80, 5, 34, 57], [35, 55, 6, 39, 68, 16, 49, 81, 20], [48, 77, 25, 31, 63, 2, 44, 64, 15], [40, 72, 11, 53, 73, 24, 30, 59, 7], [60, 8, 28, 70, 12, 41, 74, 22, 54], [79, 21, 50, 56, 4, 36, 69, 17, 37], [65, 13, 45, 78, 26, 46, 61, 3, 32]]
/-- a square that is drawn: even; of more than seven rows, with even squares of its cells -/
structure Sq (n : Nat) (c : Nat → Nat → Int) : Prop where
  n1 : 3 ≤ n
  n9 : n ≤ 9
  ev : ∃ S, Ev n c S
  bd : Bd n c 201
  sq : 7 < n → ∃ Q, Ev n (fun i j => c i j * c i j) Q
theorem s8 : Sq 8 (tb T8) := ⟨by decide, by decide, ⟨260, Ev.of_dec (by decide +kernel)⟩, Bd.of_dec (by decide +kernel), fun _ => ⟨11180, Ev.of_dec (by decide +kernel)⟩⟩
theorem s9 : Sq 9 (tb T9) := ⟨by decide, by decide, ⟨369, Ev.of_dec (by decide +kernel)⟩, Bd.of_dec (by decide +kernel), fun _ => ⟨20049, Ev.of_dec (by decide +kernel)⟩⟩
theorem eight_call (h : Hh) : callD cl13 16 [] h = .ok (.d (sqF 8 (tb T8))) h := callD_cl h rfl (by kernel_rfl)
theorem nine_call (h : Hh) : callD cl13 18 [] h = .ok (.d (sqF 9 (tb T9))) h := callD_cl h rfl (by kernel_rfl)
theorem rots_sq (n : Nat) (c : Nat → Nat → Int) : ∀ t, (fun i j => rots n c t i j * rots n c t i j) = rots n (fun i j => c i j * c i j) t
  | 0 => rfl
  | t + 1 => by
    have := rots_sq n c t
    show (fun i j => rot n (rots n c t) i j * rot n (rots n c t) i j) = rot n (rots n (fun i j => c i j * c i j) t)
    rw [← this]; rfl
theorem turn_sq (n t : Nat) (c : Nat → Nat → Int) : (fun i j => turnF n t c i j * turnF n t c i j) = turnF n t fun i j => c i j * c i j := by
  unfold turnF
  rw [rots_sq]
  by_cases g : 3 < t
  · rw [if_pos g, if_pos g]
  · rw [if_neg g, if_neg g]
theorem Sq.turn {n t : Nat} {c : Nat → Nat → Int} (x : Sq n c) : Sq n (turnF n t c) := ⟨x.n1, x.n9, by obtain ⟨S, e⟩ := x.ev; exact ⟨S, e.turn⟩, x.bd.turn, fun h => by
  obtain ⟨Q, e⟩ := x.sq h
  rw [turn_sq]
  exact ⟨Q, e.turn⟩⟩
theorem Sq.of_ev {n : Nat} {c : Nat → Nat → Int} {S : Int} (n3 : 3 ≤ n) (n5 : n ≤ 5) (e : Ev n c S) (b : Bd n c 201) : Sq n c := ⟨n3, by omega, ⟨S, e⟩, b, fun h => absurd h (by omega)⟩
end K96
end

section
set_option Elab.async false
set_option linter.all false
set_option maxRecDepth 100000
set_option maxHeartbeats 4000000
open MP PySem
namespace K96
def st0 : S := (.asg (.nm 1) (.call 19 (.cons (.v 0) .nil) .nil [0]))
def st1 : S := (.asg (.nm 2) (.bin .Add (.c (.int 3)) (.call 20 (.cons (.v 1) (.cons (.c (.int 3)) .nil)) .nil [0, 1])))
def st2 : S := (.asg (.nm 3) (.call 21 (.cons (.v 1) (.cons (.lst (.cons (.call 26 (.cons (.v 1) (.cons (.v 2) .nil)) .nil [0, 1]) (.cons (.call 26 (.cons (.v 1) (.cons (.v 2) .nil)) .nil [0, 1]) (.cons (.call 16 .nil .nil []) (.cons (.call 18 .nil .nil []) .nil))))) .nil)) .nil [0, 1]))
def st3 : S := (.asg (.nm 3) (.call 25 (.cons (.v 3) (.cons (.call 20 (.cons (.v 1) (.cons (.c (.int 8)) .nil)) .nil [0, 1]) .nil)) .nil [0, 1]))
def st4 : S := (.asg (.tp (.cons (.nm 2) (.cons (.nm 12) .nil))) (.tup (.cons (.bi .len (.cons (.v 3) .nil)) (.cons (.call 23 (.cons (.bi .len (.cons (.v 3) .nil)) .nil) .nil [0]) .nil))))
def st5 : S := (.asg (.tp (.cons (.nm 13) (.cons (.nm 14) .nil))) (.sl false true (.call 22 (.cons (.v 1) (.cons (.lc (.bi .tup (.cons (.bi .srt (.cons (.lc (.ix (.ix (.v 3) (.v 23)) (.v 24)) (.tp (.cons (.nm 23) (.cons (.nm 24) .nil))) (.e (.v 21)) .nil [23, 24]) .nil)) .nil)) (.nm 21) (.e (.v 12)) .nil [21]) .nil)) .nil [0, 1]) .none (.c (.int 2))))
def st6 : S := (.asg (.tp (.cons (.nm 15) (.cons (.nm 9) .nil))) (.tup (.cons (.bi .repr (.cons (.lst (.cons (.v 3) (.cons (.v 13) (.cons (.v 14) .nil)))) .nil)) (.cons (.call 27 (.cons (.v 13) (.cons (.v 14) .nil)) .nil [0, 1]) .nil))))
def st7 : S := (.ite (.cmp .NotEq (.bi .repr (.cons (.lst (.cons (.call 3 (.cons (.v 13) (.cons (.v 14) .nil)) .nil [0, 1]) (.cons (.call 3 .nil (.cons (.v 14) (.cons (.v 13) .nil)) [1, 0]) .nil))) .nil)) (.bi .repr (.cons (.lst (.cons (.v 9) (.cons (.v 9) .nil))) .nil))) (.cons (.ret (.c (.bl false))) .nil) .nil)
def st8 : S := (.ite (.or (.and (.cmp .IsNot (.v 9) (.c .non)) (.cmp .Lt (.v 9) (.ite (.cmp .Gt (.v 2) (.c (.int 7))) (.c (.int 2)) (.c (.int 1))))) (.cmp .IsNot (.call 1 (.cons (.v 13) .nil) .nil [0]) (.c .non))) (.cons (.ret (.c (.bl false))) .nil) .nil)
def st9 : S := (.ite (.cmp .NotEq (.call 5 (.cons (.v 13) (.cons (.v 14) .nil)) .nil [0, 1]) (.ite (.cmp .Is (.v 9) (.c .non)) (.c .non) (.bin .Add (.v 9) (.c (.int 1))))) (.cons (.ret (.c (.bl false))) .nil) .nil)
def st10 : S := (.ite (.cmp .NotEq (.bi .repr (.cons (.call 7 (.cons (.v 13) (.cons (.v 14) .nil)) .nil [0, 1]) .nil)) (.bi .repr (.cons (.cmp .Eq (.v 9) (.bin .Sub (.v 2) (.c (.int 1)))) .nil))) (.cons (.ret (.c (.bl false))) .nil) .nil)
def st11 : S := (.asg (.nm 4) (.call 24 (.cons (.v 3) .nil) .nil [0]))
def st12 : S := (.ite (.cmp .NotEq (.bi .repr (.cons (.call 10 (.cons (.v 3) .nil) .nil [0]) .nil)) (.bi .repr (.cons (.tup (.cons (.bi .tup (.cons (.sl false true (.v 4) .none (.v 2)) .nil)) (.cons (.bi .tup (.cons (.sl true true (.v 4) (.v 2) (.bin .Mult (.c (.int 2)) (.v 2))) .nil)) (.cons (.bi .tup (.cons (.sl true false (.v 4) (.bin .Mult (.c (.int 2)) (.v 2)) .none) .nil)) .nil)))) .nil))) (.cons (.ret (.c (.bl false))) .nil) .nil)
def st13 : S := (.ite (.cmp .NotEq (.call 2 (.cons (.v 13) (.cons (.c (.int 2)) .nil)) .nil [0, 1]) (.tup (.cons (.v 2) (.cons (.ix (.v 4) (.c (.int 0))) (.cons (.bi .sum (.cons (.lc (.bin .Mult (.v 22) (.v 22)) (.nm 22) (.e (.v 13)) .nil [22]) .nil)) .nil))))) (.cons (.ret (.c (.bl false))) .nil) .nil)
def st14 : S := (.ite (.and (.cmp .Is (.call 15 (.cons (.v 3) .nil) .nil [0]) (.c (.bl true))) (.cmp .NotEq (.ix (.call 24 (.cons (.call 14 (.cons (.v 3) .nil) .nil [0]) .nil) .nil [0]) (.c (.int 0))) (.ix (.call 2 (.cons (.v 14) (.cons (.c (.int 2)) .nil)) .nil [0, 1]) (.c (.int 2))))) (.cons (.ret (.c (.bl false))) .nil) .nil)
def st15 : S := (.asg (.nm 5) (.call 21 (.cons (.v 1) (.cons (.lst (.cons (.c (.int 3)) (.cons (.c (.int 15)) .nil))) .nil)) .nil [0, 1]))
def st16 : S := (.asg (.nm 6) (.bi .tup (.cons (.lc (.bin .Sub (.call 20 (.cons (.v 1) (.cons (.bin .Add (.bin .Mult (.c (.int 2)) (.v 5)) (.c (.int 1))) .nil)) .nil [0, 1]) (.v 5)) (.nm 10) (.rg1 (.c (.int 4))) .nil [10]) .nil)))
def st17 : S := (.asg (.nm 7) (.bi .tup (.cons (.lc (.bin .Sub (.call 20 (.cons (.v 1) (.cons (.bin .Add (.bin .Mult (.c (.int 2)) (.v 5)) (.c (.int 1))) .nil)) .nil [0, 1]) (.v 5)) (.nm 10) (.rg1 (.c (.int 4))) .nil [10]) .nil)))
def st18 : S := (.asg (.nm 8) (.lc (.bi .tup (.cons (.bi .srt (.cons (.lc (.bin .Mult (.v 22) (.v 22)) (.nm 22) (.e (.v 20)) .nil [22]) .nil)) .nil)) (.nm 20) (.e (.call 12 (.cons (.v 6) (.cons (.v 7) .nil)) .nil [0, 1])) .nil [20]))
def st19 : S := (.asg (.tp (.cons (.nm 16) (.cons (.nm 17) .nil))) (.tup (.cons (.ix (.v 8) (.call 20 (.cons (.v 1) (.cons (.c (.int 4)) .nil)) .nil [0, 1])) (.cons (.ix (.v 8) (.call 20 (.cons (.v 1) (.cons (.c (.int 4)) .nil)) .nil [0, 1])) .nil))))
def st20 : S := (.asg (.nm 9) (.call 27 (.cons (.v 16) (.cons (.v 17) .nil)) .nil [0, 1]))
def st21 : S := (.ite (.or (.cmp .NotEq (.call 3 (.cons (.v 16) (.cons (.v 17) .nil)) .nil [0, 1]) (.v 9)) (.or (.and (.cmp .IsNot (.v 9) (.c .non)) (.cmp .Lt (.v 9) (.c (.int 1)))) (.cmp .NotEq (.bi .sum (.cons (.v 16) .nil)) (.bin .Mult (.call 13 (.cons (.v 6) .nil) .nil [0]) (.call 13 .nil (.cons (.v 7) .nil) [0]))))) (.cons (.ret (.c (.bl false))) .nil) .nil)
def st22 : S := (.asg (.nm 10) (.call 20 (.cons (.v 1) (.cons (.c (.int 5)) .nil)) .nil [0, 1]))
def st23 : S := (.asg (.tp (.cons (.nm 18) (.cons (.nm 19) .nil))) (.tup (.cons (.call 9 (.cons (.c (.int 2)) (.cons (.v 10) .nil)) .nil [0, 1]) (.cons (.call 9 (.cons (.c (.int 2)) (.cons (.bin .Add (.v 10) (.c (.int 1))) .nil)) .nil [0, 1]) .nil))))
def st24 : S := (.asg (.nm 11) (.bin .Mult (.c (.int 2)) (.bi .len (.cons (.ix (.v 18) (.c (.int 0))) .nil))))
def st25 : S := (.ite (.cmp .NotEq (.bi .repr (.cons (.call 4 (.cons (.ix (.v 18) (.c (.int 0))) (.cons (.ix (.v 18) (.c (.int 1))) (.cons (.v 11) .nil))) .nil [0, 1, 2]) .nil)) (.bi .repr (.cons (.tup (.cons (.ix (.v 19) (.c (.int 0))) (.cons (.ix (.v 19) (.c (.int 1))) .nil))) .nil))) (.cons (.ret (.c (.bl false))) .nil) .nil)
def st26 : S := (.ite (.or (.cmp .NotEq (.call 3 (.cons (.ix (.v 18) (.c (.int 0))) (.cons (.ix (.v 18) (.c (.int 1))) .nil)) .nil [0, 1]) (.v 10)) (.cmp .NotEq (.call 3 (.cons (.ix (.v 19) (.c (.int 0))) (.cons (.ix (.v 19) (.c (.int 1))) .nil)) .nil [0, 1]) (.bin .Add (.v 10) (.c (.int 1))))) (.cons (.ret (.c (.bl false))) .nil) .nil)
def st27 : S := (.ret (.cmp .Eq (.bi .repr (.cons (.lst (.cons (.v 3) (.cons (.v 13) (.cons (.v 14) .nil)))) .nil)) (.v 15)))
theorem law_split : b_law = (.cons st0 <| .cons st1 <| .cons st2 <| .cons st3 <| .cons st4 <| .cons st5 <| .cons st6 <| .cons st7 <| .cons st8 <| .cons st9 <| .cons st10 <| .cons st11 <| .cons st12 <| .cons st13 <| .cons st14 <| .cons st15 <| .cons st16 <| .cons st17 <| .cons st18 <| .cons st19 <| .cons st20 <| .cons st21 <| .cons st22 <| .cons st23 <| .cons st24 <| .cons st25 <| .cons st26 <| .cons st27 <| .nil) := rfl
theorem nx {cl : Cl} {en en' : En} {h h' : Hh} {o : Out Fl} {s : S} {r : Ss} (e : dS cl cs s en h = .ok (.nx en') h') (k : dSs cl cs r en' h' = o) : dSs cl cs (.cons s r) en h = o := (seq_nx (a := dS cl cs s) (b := dSs cl cs r) e).trans k
theorem ite_no {cl : Cl} {en : En} {h h' : Hh} {x : R} {c : E} {a : Ss} (e : dE cl cs c en h = .ok x h') (t : truth h' x = some false) : dS cl cs (.ite c a .nil) en h = .ok (.nx en) h' := by
  show kIteS (dE cl cs c) (dSs cl cs a) kPass en h = _
  exact ite_k e t
theorem i20 : IsOf fds 20 := ⟨f__law_of, rfl, rfl, rfl, rfl, rfl⟩
theorem i21 : IsOne fds 21 20 := ⟨f__law_one, rfl, rfl, rfl, rfl, rfl⟩
theorem i22 : IsOrder fds 22 20 := ⟨f__law_order, rfl, rfl, rfl, rfl, rfl⟩
theorem i25 : IsTurned fds 25 := ⟨f__law_turned, rfl, rfl, rfl, rfl, rfl⟩
theorem i26 : IsEvenOf fds 26 20 21 25 := ⟨f__law_even_of, rfl, rfl, rfl, rfl, rfl⟩
theorem lines (n : Nat) (hn : n < 1000) (h : Hh) : callD cl13 23 [.int n] h = .ok (.fl (linesD n)) h := lines_call (k := 12) (fd := f__law_lines) rfl rfl rfl rfl rfl n hn h
end K96
end

section
set_option Elab.async false
set_option linter.all false
set_option maxRecDepth 100000
set_option maxHeartbeats 4000000
open MP PySem
namespace K96
theorem itm_T (l : List Int) : Itm (tupI l) := ⟨nr_TI 37 l, .tuple (l.map .int), fun h => by
  show (match allO ((IL l).map (py h 38)) with | some l => some (PyData.tuple l) | none => none) = _
  rw [py_I h 37 l], by simp only [PyData.canLay0]; exact (lay_I l).1, by have := (lay_I l).2; simp only [PyData.depth]; omega⟩
/-- behind statement 5 -/
def enA (x0 : D) (n : Nat) (c : Nat → Nat → Int) (a b : List Int) : En := [some x0, some (.ref 1), some (.int n), some (sqF n c), none, none, none, none, none, none, none, none, some (.lst (linesD n)), some (tupI a), some (tupI b), none, none, none, none, none, none, none, none, none, none]
theorem headP (x0 : D) (h : Hh) (p : Pt [] h) : ∃ n c a b h', Sq n c ∧ a ∈ (linesC n c).map srtI ∧ b ∈ (linesC n c).map srtI ∧ Pt [] h' ∧
    ∀ tail, dSs cl13 cs (.cons st1 <| .cons st2 <| .cons st3 <| .cons st4 <| .cons st5 <| tail) [some x0, some (.ref 1), none, none, none, none, none, none, none, none, none, none, none, none, none, none, none, none, none, none, none, none, none, none, none] h = dSs cl13 cs tail (enA x0 n c a b) h' := by
  obtain ⟨z, h1, e1, hz, p1⟩ := of_draw (cs := cs) (k := 12) i20 p 3 (by decide) (by decide)
  obtain ⟨n, hn⟩ : ∃ n, n = 3 + z := ⟨_, rfl⟩
  have n1 : 3 ≤ n := by omega
  have n5 : n ≤ 5 := by omega
  obtain ⟨c1, S1, h2, e2, ev1, bd1, p2⟩ := evenOf_call (cs := cs) (k := 10) i26 i20 i21 i25 n (by omega) n5 p1
  obtain ⟨c2, S2, h3, e3, ev2, bd2, p3⟩ := evenOf_call (cs := cs) (k := 10) i26 i20 i21 i25 n (by omega) n5 p2
  obtain ⟨w, h4, e4, hw, p4⟩ := one_draw (cs := cs) (k := 11) i21 i20 p3 (.lst [sqF n c1, sqF n c2, sqF 8 (tb T8), sqF 9 (tb T9)]) _ (fun _ _ _ => rfl) (by simp) (by simp) (by
    rw [List.all_cons, nr_sq 37, List.all_cons, nr_sq 37, List.all_cons, nr_sq 37, List.all_cons, nr_sq 37]; rfl)
  have sq : ∃ m c, w = sqF m c ∧ Sq m c := by
    simp only [List.mem_cons, List.not_mem_nil, or_false] at hw
    rcases hw with rfl | rfl | rfl | rfl
    · exact ⟨_, _, rfl, .of_ev n1 n5 ev1 bd1⟩
    · exact ⟨_, _, rfl, .of_ev n1 n5 ev2 bd2⟩
    · exact ⟨_, _, rfl, s8⟩
    · exact ⟨_, _, rfl, s9⟩
  obtain ⟨m, c0, rfl, q0⟩ := sq
  obtain ⟨t, h5, e5, ht, p5⟩ := of_draw (cs := cs) (k := 12) i20 p4 8 (by decide) (by decide)
  obtain ⟨c, hc⟩ : ∃ c, c = turnF m t c0 := ⟨_, rfl⟩
  have q : Sq m c := hc ▸ q0.turn
  have mk : m < 1000 := by have := q.n9; omega
  have m3 := q.n1
  have e6 := turn_call (cs := cs) (k := 12) i25 m mk c0 t h5
  rw [← hc] at e6
  obtain ⟨L, h6, e7, pm, p6⟩ := order_call (cs := cs) (k := 11) i22 i20 ((linesC m c).map fun l => tupI (srtI l)) (by unfold linesC; simp; have := q.n9; omega) (fun d hd => by obtain ⟨l, _, rfl⟩ := List.mem_map.mp hd; exact itm_T _) p5
  have ll : 2 ≤ L.length := by rw [pm.length_eq]; unfold linesC; simp; omega
  obtain ⟨A, B, rr, hL⟩ : ∃ A B rr, L = A :: B :: rr := by
    match L, ll with
    | A :: B :: rr, _ => exact ⟨A, B, rr, rfl⟩
  have mem : ∀ d ∈ L, ∃ a, a ∈ (linesC m c).map srtI ∧ d = tupI a := fun d hd => by
    obtain ⟨l, hl, rfl⟩ := List.mem_map.mp (pm.mem_iff.mp hd)
    exact ⟨_, List.mem_map.mpr ⟨l, hl, rfl⟩, rfl⟩
  obtain ⟨a, ha, rfl⟩ := mem A (by rw [hL]; exact List.mem_cons_self)
  obtain ⟨b, hb, rfl⟩ := mem B (by rw [hL]; exact List.mem_cons_of_mem _ List.mem_cons_self)
  refine ⟨m, c, a, b, h6, q, ha, hb, p6, fun tail => ?_⟩
  refine nx (en' := [some x0, some (.ref 1), some (.int n), none, none, none, none, none, none, none, none, none, none, none, none, none, none, none, none, none, none, none, none, none, none]) (h' := h1) ?_ ?_
  · unfold st1
    simp only [dSs, dS, dE, dEs, dT, dTs, dI, dIf]
    have a := add_i 3 (z : Int) h1
    rw [show (3 : Int) + (z : Int) = (n : Int) by omega] at a
    exact asg_ok (bin_ok (op := .Add) (x := .d (.int 3)) (y := .d (.int z)) c_ok (call_ok (xs := [.d (.ref 1), .d (.int 3)]) (cons_ok (v_ok rfl) (cons_ok c_ok nil_ok)) nil_ok rfl e1) a) (nm_ok (lt_b rfl))
  refine nx (en' := [some x0, some (.ref 1), some (.int n), some (sqF m c0), none, none, none, none, none, none, none, none, none, none, none, none, none, none, none, none, none, none, none, none, none]) (h' := h4) ?_ ?_
  · unfold st2
    simp only [dSs, dS, dE, dEs, dT, dTs, dI, dIf]
    exact asg_ok (call_ok (xs := [.d (.ref 1), .fl [sqF n c1, sqF n c2, sqF 8 (tb T8), sqF 9 (tb T9)]]) (cons_ok (v_ok rfl) (cons_ok (lst_ok (rs := [.d (sqF n c1), .d (sqF n c2), .d (sqF 8 (tb T8)), .d (sqF 9 (tb T9))]) (cons_ok (call_ok (xs := [.d (.ref 1), .d (.int n)]) (cons_ok (v_ok rfl) (cons_ok (v_ok rfl) nil_ok)) nil_ok rfl e2) (cons_ok (call_ok (xs := [.d (.ref 1), .d (.int n)]) (cons_ok (v_ok rfl) (cons_ok (v_ok rfl) nil_ok)) nil_ok rfl e3) (cons_ok (call_ok (xs := []) nil_ok nil_ok rfl (eight_call h3)) (cons_ok (call_ok (xs := []) nil_ok nil_ok rfl (nine_call h3)) nil_ok)))) ln4) nil_ok)) nil_ok rfl e4) (nm_ok (lt_b rfl))
  refine nx (en' := [some x0, some (.ref 1), some (.int n), some (sqF m c), none, none, none, none, none, none, none, none, none, none, none, none, none, none, none, none, none, none, none, none, none]) (h' := h5) ?_ ?_
  · unfold st3
    simp only [dSs, dS, dE, dEs, dT, dTs, dI, dIf]
    exact asg_ok (call_ok (xs := [.d (sqF m c0), .d (.int t)]) (cons_ok (v_ok rfl) (cons_ok (call_ok (xs := [.d (.ref 1), .d (.int 8)]) (cons_ok (v_ok rfl) (cons_ok c_ok nil_ok)) nil_ok rfl e5) nil_ok)) nil_ok rfl e6) (nm_ok (lt_b rfl))
  refine nx (en' := enQ x0 m c) (h' := h5) ?_ ?_
  · unfold st4
    simp only [dSs, dS, dE, dEs, dT, dTs, dI, dIf]
    exact asg_ok (tup_ok (rs := [.d (.int m), .fl (linesD m)]) (cons_ok (bi_ok (cons_ok (v_ok rfl) nil_ok) (len_sq m c h5)) (cons_ok (call_ok (xs := [.d (.int m)]) (cons_ok (bi_ok (cons_ok (v_ok rfl) nil_ok) (len_sq m c h5)) nil_ok) nil_ok rfl (lines m mk h5)) nil_ok)) ln2)
      (tp_ok (ds := [.int m, .lst (linesD m)]) rfl (tcons_ok (nm_ok (lt_b rfl)) (tcons_ok (nm_ok (lt_b rfl)) tnil_ok)))
  refine nx (en' := enA x0 m c a b) (h' := h6) ?_ rfl
  unfold st5
  simp only [dSs, dS, dE, dEs, dT, dTs, dI, dIf]
  have sl : slD (.d (.lst L)) none (some 2) h6 = some (.fl [tupI a, tupI b]) := by
    rw [hL]
    show some (R.fl (cutD (tupI a :: tupI b :: rr) none (some 2))) = _
    unfold cutD
    rw [HT.sIx_none, show HT.sIx (tupI a :: tupI b :: rr).length (tupI a :: tupI b :: rr).length (some 2) = min 2 (tupI a :: tupI b :: rr).length from HT.sIx_nat _ _ 2, Nat.min_eq_left (by simp)]; rfl
  exact asg_ok (sl_ok (l := none) (u := some 2) (call_ok (xs := [.d (.ref 1), .fl ((linesC m c).map fun l => tupI (srtI l))]) (cons_ok (v_ok rfl) (cons_ok (sorted_lines x0 m mk c h5) nil_ok)) nil_ok rfl e7) part_f (part_t c_ok) sl)
    (tp_ok (ds := [tupI a, tupI b]) rfl (tcons_ok (nm_ok (lt_b rfl)) (tcons_ok (nm_ok (lt_b rfl)) tnil_ok)))
end K96
end

section
set_option Elab.async false
set_option linter.all false
set_option maxRecDepth 100000
set_option maxHeartbeats 4000000
open MP PySem
namespace K96
/-- a sorted line -/
structure SL (n : Nat) (S : Int) (a : List Int) : Prop where
  len : a.length = n
  asc : Asc a
  bd : ∀ x ∈ a, x.natAbs ≤ 201
  sum : pw a 1 = S
theorem SL.of {n : Nat} {c : Nat → Nat → Int} {S : Int} (ev : Ev n c S) (bd : Bd n c 201) {a : List Int} (h : a ∈ (linesC n c).map srtI) : SL n S a := by
  obtain ⟨l, hl, rfl⟩ := List.mem_map.mp h
  have := (lines_ok ev bd l hl).srt
  exact ⟨this.len, srt_asc l, this.bd, this.sum⟩
theorem SL.bq {n : Nat} {S : Int} {a : List Int} (s : SL n S a) : Bq a := fun x hx => by have := s.bd x hx; omega
theorem Gd.non : Gd 70 0 .none := ⟨by simp only [PyData.canLay0], by simp only [PyData.depth]; omega, by simp only [PyData.showable], by simp only [PyData.hasDict], rfl, by simp only [room]; omega⟩
def dP : D → PyData
  | .int i => .int i
  | _ => .none
theorem ag_gd {l m : List Int} {d : D} (a : Ag l m d) (hl : l.length < 1000) : Gd 70 0 (dP d) ∧ ∀ h k, py h (k + 1) d = some (dP d) := by
  cases a with
  | eq e => exact ⟨Gd.non, fun _ _ => rfl⟩
  | @ne K d => exact ⟨Gd.int _ (by have := d.kn; omega), fun _ _ => rfl⟩
def enB (x0 : D) (n : Nat) (c : Nat → Nat → Int) (a b : List Int) (d : D) (P : PyData) : En := [some x0, some (.ref 1), some (.int n), some (sqF n c), none, none, none, none, none, some d, none, none, some (.lst (linesD n)), some (tupI a), some (tupI b), some (.rp P), none, none, none, none, none, none, none, none, none]
def keptP (n : Nat) (c : Nat → Nat → Int) (a b : List Int) : PyData := .list [sqP n c, .tuple (a.map .int), .tuple (b.map .int)]
theorem gd_T {a : List Int} (h : ∀ x ∈ a, x.natAbs < 18446744073709551616) : Gd (a.length * 72 + 3) 1 (.tuple (a.map .int)) := by
  have : Gds a.length 70 0 (a.map .int) := by
    induction a with
    | nil => exact Gds.nil
    | cons x a ih => exact Gds.cons (Gd.int x (h x List.mem_cons_self)) (ih fun y hy => h y (List.mem_cons_of_mem _ hy))
  exact this.tup
theorem kept_ok {n : Nat} {c : Nat → Nat → Int} {S : Int} (n9 : n ≤ 9) (bd : Bd n c 201) {a b : List Int} (sa : SL n S a) (sb : SL n S b) (h : Hh) : biD .repr [.fl [sqF n c, tupI a, tupI b]] h = some (.d (.rp (keptP n c a b))) := by
  have g1 := Gd.sq bd (by decide)
  have g2 := gd_T (a := a) fun x hx => by have := sa.bd x hx; omega
  have g3 := gd_T (a := b) fun x hx => by have := sb.bd x hx; omega
  rw [sa.len] at g2
  rw [sb.len] at g3
  have le : n * (n * 72 + 3 + 2) ≤ 9 * (9 * 72 + 3 + 2) := Nat.mul_le_mul n9 (by omega)
  refine repr_ok (r := .fl [sqF n c, tupI a, tupI b]) (p := keptP n c a b) (dp := 3) ?_ (Gds.cons (g1.mono (B' := 10000) (dp' := 2) (by omega) (by omega)) (Gds.cons (g2.mono (B' := 10000) (dp' := 2) (by omega) (by omega)) (Gds.cons (g3.mono (B' := 10000) (dp' := 2) (by omega) (by omega)) Gds.nil))).lst (by decide) (by decide)
  show (match allO [py h 39 (sqF n c), py h 39 (tupI a), py h 39 (tupI b)] with | some l => some (PyData.list l) | none => none) = _
  have pT : ∀ l : List Int, py h 39 (tupI l) = some (.tuple (l.map .int)) := fun l => by
    show (match allO ((IL l).map (py h 38)) with | some l => some (PyData.tuple l) | none => none) = _
    rw [py_I h 37 l]
  rw [py_sq h 36, pT, pT]; rfl
theorem rp_bl (b : Bool) : ∃ p, ∀ h : Hh, biD .repr [.d (.bl b)] h = some (.d (.rp p)) := by
  cases b <;> exact ⟨_, fun h => rfl⟩
theorem non_int (x : Int) (h : Hh) : cmpD .Eq (.d .non) (.d (.int x)) h = some false := by
  refine ceq ?_
  show (if (SeqAt.shaped .none && SeqAt.shaped (.int x)) = true then some (PyData.eqv .none (.int x)) else none) = _
  have s1 : SeqAt.shaped .none = true := by
    show (PyData.none.canLay0 && decide (PyData.none.depth ≤ 64)) = true
    rw [show PyData.none.canLay0 = true from by simp only [PyData.canLay0], decide_eq_true (by simp only [PyData.depth]; omega)]; rfl
  have s2 : SeqAt.shaped (.int x) = true := by
    show ((PyData.int x).canLay0 && decide ((PyData.int x).depth ≤ 64)) = true
    rw [show (PyData.int x).canLay0 = true from by simp only [PyData.canLay0], decide_eq_true (by simp only [PyData.depth]; omega)]; rfl
  rw [s1, s2, PyData.eqv]; rfl
theorem agP {n : Nat} {c : Nat → Nat → Int} (q : Sq n c) {a b : List Int} (ha : a ∈ (linesC n c).map srtI) (hb : b ∈ (linesC n c).map srtI) (x0 : D) (h : Hh) :
    ∃ d, Ag a b d ∧ ∀ tail, dSs cl13 cs (.cons st6 <| .cons st7 <| .cons st8 <| .cons st9 <| .cons st10 <| tail) (enA x0 n c a b) h = dSs cl13 cs tail (enB x0 n c a b d (keptP n c a b)) h := by
  obtain ⟨S, ev⟩ := q.ev
  have sa := SL.of ev q.bd ha
  have sb := SL.of ev q.bd hb
  have n9 := q.n9
  have n1 := q.n1
  have la := sa.len
  have lb := sb.len
  obtain ⟨d, ag⟩ := ag_of (l := a) (m := b) (by omega) (by omega) sa.asc sb.asc sa.bq sb.bq
  obtain ⟨gd, pd⟩ := ag_gd ag (by omega)
  refine ⟨d, ag, fun tail => ?_⟩
  refine nx (en' := enB x0 n c a b d (keptP n c a b)) (h' := h) ?_ ?_
  · unfold st6
    simp only [dSs, dS, dE, dEs, dT, dTs, dI, dIf]
    exact asg_ok (tup_ok (rs := [.d (.rp (keptP n c a b)), .d d]) (cons_ok (bi_ok (cons_ok (lst_ok (rs := [.d (sqF n c), .d (tupI a), .d (tupI b)]) (cons_ok (v_ok rfl) (cons_ok (v_ok rfl) (cons_ok (v_ok rfl) nil_ok))) ln3) nil_ok) (kept_ok n9 q.bd sa sb h)) (cons_ok (call_ok (xs := [.d (tupI a), .d (tupI b)]) (cons_ok (v_ok rfl) (cons_ok (v_ok rfl) nil_ok)) nil_ok rfl (ag_law (k := 12) ag h)) nil_ok)) ln2)
      (tp_ok (ds := [.rp (keptP n c a b), d]) rfl (tcons_ok (nm_ok (lt_b rfl)) (tcons_ok (nm_ok (lt_b rfl)) tnil_ok)))
  refine nx (en' := enB x0 n c a b d (keptP n c a b)) (h' := h) ?_ ?_
  · unfold st7
    refine ite_no (x := .d (.bl false)) ?_ rfl
    simp only [dSs, dS, dE, dEs, dT, dTs, dI, dIf]
    have e3 := ag_agree (k := 12) ag (by omega) h
    have rp : biD .repr [.fl [d, d]] h = some (.d (.rp (.list [dP d, dP d]))) := by
      refine repr_ok (r := .fl [d, d]) (p := .list [dP d, dP d]) (dp := 1) ?_ (Gds.cons gd (Gds.cons gd Gds.nil)).lst (by decide) (by decide)
      show (match allO [py h 39 d, py h 39 d] with | some l => some (PyData.list l) | none => none) = _
      rw [pd h 38]; rfl
    exact cmp_ok (bi_ok (cons_ok (lst_ok (rs := [.d d, .d d]) (cons_ok (call_ok (xs := [.d (tupI a), .d (tupI b)]) (cons_ok (v_ok rfl) (cons_ok (v_ok rfl) nil_ok)) nil_ok rfl e3) (cons_ok (call_ok (ys := [.d (tupI b), .d (tupI a)]) nil_ok (cons_ok (v_ok rfl) (cons_ok (v_ok rfl) nil_ok)) rfl e3) nil_ok)) ln2) nil_ok) rp)
      (bi_ok (cons_ok (lst_ok (rs := [.d d, .d d]) (cons_ok (v_ok rfl) (cons_ok (v_ok rfl) nil_ok)) ln2) nil_ok) rp) (rp_ne _ _)
  -- 8
  have bag := bag_ok (k := 11) (l := a) (by omega) (by omega) sa.asc (fun x hx => by have := sa.bd x hx; omega) h
  refine nx (en' := enB x0 n c a b d (keptP n c a b)) (h' := h) ?_ ?_
  · unfold st8
    refine ite_no (x := .d (.bl false)) ?_ rfl
    simp only [dSs, dS, dE, dEs, dT, dTs, dI, dIf]
    refine or_f (x := .d (.bl false)) (h1 := h) ?_ rfl (cmp_ok (x := .d .non) (call_ok (xs := [.d (tupI a)]) (cons_ok (v_ok rfl) nil_ok) nil_ok rfl bag) c_ok rfl)
    cases ag with
    | eq e => exact and_f (cmp_ok (x := .d .non) (v_ok rfl) c_ok rfl) rfl
    | @ne K df =>
      have k2 := df.two (by rw [sa.sum, sb.sum])
      by_cases g : (7 : Int) < n
      · have k3 : 3 ≤ K := by
          obtain ⟨Q, eq⟩ := q.sq (by omega)
          have two : ∀ x ∈ (linesC n c).map srtI, pw x 2 = Q := fun x hx => by
            obtain ⟨l, hl, rfl⟩ := List.mem_map.mp hx
            rw [pw_perm (srt_perm l)]; exact lines_two eq l hl
          exact df.three (by rw [sa.sum, sb.sum]) (by rw [two a ha, two b hb])
        refine and_t (x := .d (.bl true)) (cmp_ok (x := .d (.int (K - 1 : Nat))) (v_ok rfl) c_ok rfl) rfl (cmp_ok (x := .d (.int (K - 1 : Nat))) (y := .d (.int 2)) (v_ok rfl) (if_t (x := .d (.bl true)) (cmp_ok (x := .d (.int n)) (y := .d (.int 7)) (v_ok rfl) c_ok ?_) rfl c_ok) ?_)
        · show some (decide ((7 : Int) < n)) = _
          rw [decide_eq_true g]
        · show some (decide (((K - 1 : Nat) : Int) < 2)) = _
          rw [decide_eq_false (by omega)]
      · refine and_t (x := .d (.bl true)) (cmp_ok (x := .d (.int (K - 1 : Nat))) (v_ok rfl) c_ok rfl) rfl (cmp_ok (x := .d (.int (K - 1 : Nat))) (y := .d (.int 1)) (v_ok rfl) (if_f (x := .d (.bl false)) (cmp_ok (x := .d (.int n)) (y := .d (.int 7)) (v_ok rfl) c_ok ?_) rfl c_ok) ?_)
        · show some (decide ((7 : Int) < n)) = _
          rw [decide_eq_false g]
        · show some (decide (((K - 1 : Nat) : Int) < 1)) = _
          rw [decide_eq_false (by omega)]
  -- 9
  refine nx (en' := enB x0 n c a b d (keptP n c a b)) (h' := h) ?_ ?_
  · unfold st9
    refine ite_no (x := .d (.bl false)) ?_ rfl
    simp only [dSs, dS, dE, dEs, dT, dTs, dI, dIf]
    cases ag with
    | eq e =>
      subst e
      exact cmp_ok (x := .d .non) (y := .d .non) (call_ok (xs := [.d (tupI a), .d (tupI a)]) (cons_ok (v_ok rfl) (cons_ok (v_ok rfl) nil_ok)) nil_ok rfl (order_eq (k := 12) (by omega) h)) (if_t (x := .d (.bl true)) (cmp_ok (x := .d .non) (v_ok rfl) c_ok rfl) rfl c_ok) (by kernel_rfl)
    | @ne K df =>
      have ad := add_i ((K - 1 : Nat) : Int) 1 h
      have k1 := df.k1
      rw [show ((K - 1 : Nat) : Int) + 1 = (K : Int) by omega] at ad
      exact cmp_ok (x := .d (.int K)) (y := .d (.int K)) (call_ok (xs := [.d (tupI a), .d (tupI b)]) (cons_ok (v_ok rfl) (cons_ok (v_ok rfl) nil_ok)) nil_ok rfl (order_ne (k := 12) df sa.asc sb.asc sa.bq sb.bq h)) (if_f (x := .d (.bl false)) (cmp_ok (x := .d (.int (K - 1 : Nat))) (v_ok rfl) c_ok rfl) rfl (bin_ok (op := .Add) (x := .d (.int (K - 1 : Nat))) (y := .d (.int 1)) (v_ok rfl) c_ok ad)) ((nei _ _ h).trans (by simp))
  -- 10
  refine nx (en' := enB x0 n c a b d (keptP n c a b)) (h' := h) ?_ rfl
  unfold st10
  refine ite_no (x := .d (.bl false)) ?_ rfl
  simp only [dSs, dS, dE, dEs, dT, dTs, dI, dIf]
  have sb1 := sub_i (n : Int) 1 h
  cases ag with
  | eq e =>
    subst e
    obtain ⟨pp, hp⟩ := rp_bl false
    exact cmp_ok (bi_ok (cons_ok (call_ok (xs := [.d (tupI a), .d (tupI a)]) (cons_ok (v_ok rfl) (cons_ok (v_ok rfl) nil_ok)) nil_ok rfl (far_eq (k := 11) (by omega) h)) nil_ok) (hp h)) (bi_ok (cons_ok (cmp_ok (x := .d .non) (y := .d (.int ((n : Int) - 1))) (v_ok rfl) (bin_ok (op := .Sub) (x := .d (.int n)) (y := .d (.int 1)) (v_ok rfl) c_ok sb1) (non_int _ h)) nil_ok) (hp h)) (rp_ne pp h)
  | @ne K df =>
    have k1 := df.k1
    obtain ⟨pp, hp⟩ := rp_bl (decide (K = a.length))
    have e : cmpD .Eq (.d (.int (K - 1 : Nat))) (.d (.int ((n : Int) - 1))) h = some (decide (K = a.length)) := by
      rw [eqi]
      congr 1
      exact decide_eq_decide.mpr ⟨fun e => by omega, fun e => by omega⟩
    exact cmp_ok (bi_ok (cons_ok (call_ok (xs := [.d (tupI a), .d (tupI b)]) (cons_ok (v_ok rfl) (cons_ok (v_ok rfl) nil_ok)) nil_ok rfl (far_ne (k := 11) df sa.bq sb.bq h)) nil_ok) (hp h)) (bi_ok (cons_ok (cmp_ok (x := .d (.int (K - 1 : Nat))) (y := .d (.int ((n : Int) - 1))) (v_ok rfl) (bin_ok (op := .Sub) (x := .d (.int n)) (y := .d (.int 1)) (v_ok rfl) c_ok sb1) e) nil_ok) (hp h)) (rp_ne pp h)
end K96
end

section
set_option Elab.async false
set_option linter.all false
set_option maxRecDepth 100000
set_option maxHeartbeats 4000000
open MP PySem
namespace K96
theorem sumsL_ev {n : Nat} {c : Nat → Nat → Int} {S : Int} (e : Ev n c S) : sumsL n c = IL (List.replicate (n + n + 2) S) := by
  rw [show IL (List.replicate (n + n + 2) S) = List.replicate (n + n + 2) (D.int S) from List.map_replicate ..]
  refine List.eq_replicate_iff.mpr ⟨by unfold sumsL; simp; omega, fun d hd => ?_⟩
  unfold sumsL at hd
  rcases List.mem_append.mp hd with hd | hd
  · rcases List.mem_append.mp hd with hd | hd
    · obtain ⟨i, hi, rfl⟩ := List.mem_map.mp hd
      exact congrArg D.int (e.row i (List.mem_range.mp hi))
    · obtain ⟨i, hi, rfl⟩ := List.mem_map.mp hd
      exact congrArg D.int (e.col i (List.mem_range.mp hi))
  · rcases List.mem_cons.mp hd with rfl | hd
    · exact congrArg D.int e.fall
    · rcases List.mem_cons.mp hd with rfl | hd
      · exact congrArg D.int e.rise
      · exact nomatch hd
theorem sumsT_ev {n : Nat} {c : Nat → Nat → Int} {S : Int} (e : Ev n c S) : sumsT n c = .tup [tupI (List.replicate n S), tupI (List.replicate n S), tupI [S, S]] := by
  have r : ∀ g : Nat → Int, (∀ i, i < n → g i = S) → rowF n g = tupI (List.replicate n S) := fun g h => by
    unfold rowF tupI
    congr 1
    rw [show IL (List.replicate n S) = List.replicate n (D.int S) from List.map_replicate ..]
    refine List.eq_replicate_iff.mpr ⟨by simp, fun d hd => ?_⟩
    obtain ⟨i, hi, rfl⟩ := List.mem_map.mp hd
    exact congrArg D.int (h i (List.mem_range.mp hi))
  unfold sumsT
  rw [r _ e.row, r _ e.col, e.fall, e.rise]; rfl
theorem sl_rep (N : Nat) (S : Int) (lo hi : Option Int) (h : Hh) : slD (.d (.lst (IL (List.replicate N S)))) lo hi h = some (.fl (IL (List.replicate (min (HT.sIx N N hi - HT.sIx N 0 lo) (N - HT.sIx N 0 lo)) S))) := by
  show some (R.fl (cutD (IL (List.replicate N S)) lo hi)) = _
  unfold cutD
  rw [len_I, List.length_replicate, IL, IL, List.map_replicate, List.map_replicate, List.drop_replicate, List.take_replicate]
theorem sum_bd : ∀ {a : List Int}, (∀ x ∈ a, x.natAbs ≤ 201) → a.sum.natAbs ≤ a.length * 201
  | [], _ => by simp
  | x :: a, h => by
    have h1 := h x List.mem_cons_self
    have h2 := sum_bd (a := a) fun y hy => h y (List.mem_cons_of_mem _ hy)
    rw [List.sum_cons, List.length_cons]
    omega
theorem atI_rep (N : Nat) (S : Int) (h : 0 < N) : L2.atI (IL (List.replicate N S)) 0 = some (.int S) := atI_I (l := List.replicate N S) (i := 0) (by rw [List.getElem?_replicate, if_pos h])
end K96
end

section
set_option Elab.async false
set_option linter.all false
set_option maxRecDepth 100000
set_option maxHeartbeats 4000000
open MP PySem
namespace K96
def enC (x0 : D) (n : Nat) (c : Nat → Nat → Int) (a b : List Int) (d : D) (P : PyData) : En := [some x0, some (.ref 1), some (.int n), some (sqF n c), some (.lst (sumsL n c)), none, none, none, none, some d, none, none, some (.lst (linesD n)), some (tupI a), some (tupI b), some (.rp P), none, none, none, none, none, none, none, none, none]
theorem pw_zero (l : List Int) : pw l 0 = l.length := by
  induction l with
  | nil => rfl
  | cons a l ih => rw [pw_cons, ih, List.length_cons]; simp; omega
theorem sumP {n : Nat} {c : Nat → Nat → Int} (q : Sq n c) {a b : List Int} (ha : a ∈ (linesC n c).map srtI) (hb : b ∈ (linesC n c).map srtI) (x0 : D) (d : D) (P : PyData) (h : Hh) :
    ∀ tail, dSs cl13 cs (.cons st11 <| .cons st12 <| .cons st13 <| .cons st14 <| tail) (enB x0 n c a b d P) h = dSs cl13 cs tail (enC x0 n c a b d P) h := by
  obtain ⟨S, ev⟩ := q.ev
  have sa := SL.of ev q.bd ha
  have sb := SL.of ev q.bd hb
  have n9 := q.n9
  have n1 := q.n1
  have la := sa.len
  have lb := sb.len
  have mk : n < 1000 := by omega
  have Sb : S.natAbs < 18446744073709551616 := by
    have := sum_bd sa.bd
    rw [← pw_one, sa.sum, la] at this
    omega
  intro tail
  refine nx (en' := enC x0 n c a b d P) (h' := h) ?_ ?_
  · unfold st11
    simp only [dSs, dS, dE, dEs, dT, dTs, dI, dIf]
    exact asg_ok (call_ok (xs := [.d (sqF n c)]) (cons_ok (v_ok rfl) nil_ok) nil_ok rfl (lsums (k := 11) n mk c h)) (nm_ok (lt_b rfl))
  refine nx (en' := enC x0 n c a b d P) (h' := h) ?_ ?_
  · unfold st12
    refine ite_no (x := .d (.bl false)) ?_ rfl
    simp only [dSs, dS, dE, dEs, dT, dTs, dI, dIf]
    have s0 := sums (k := 12) n mk c h
    rw [sumsT_ev ev] at s0
    have two := mul_lo 2 (n : Int) h (by decide)
    have l1 := sl_rep (n + n + 2) S none (some (n : Int)) h
    have l2 := sl_rep (n + n + 2) S (some (n : Int)) (some (2 * (n : Int))) h
    have l3 := sl_rep (n + n + 2) S (some (2 * (n : Int))) none h
    have i1 : HT.sIx (n + n + 2) (n + n + 2) (some (n : Int)) = n := (HT.sIx_nat _ _ n).trans (by omega)
    have i2 : HT.sIx (n + n + 2) 0 (some (n : Int)) = n := (HT.sIx_nat _ _ n).trans (by omega)
    have i3 : HT.sIx (n + n + 2) (n + n + 2) (some (2 * (n : Int))) = 2 * n := by
      rw [show 2 * (n : Int) = ((2 * n : Nat) : Int) by omega]; exact (HT.sIx_nat _ _ (2 * n)).trans (by omega)
    have i4 : HT.sIx (n + n + 2) 0 (some (2 * (n : Int))) = 2 * n := by
      rw [show 2 * (n : Int) = ((2 * n : Nat) : Int) by omega]; exact (HT.sIx_nat _ _ (2 * n)).trans (by omega)
    rw [HT.sIx_none, i1, show min (n - 0) (n + n + 2 - 0) = n by omega] at l1
    rw [i2, i3, show min (2 * n - n) (n + n + 2 - n) = n by omega] at l2
    rw [HT.sIx_none, i4, show min (n + n + 2 - 2 * n) (n + n + 2 - 2 * n) = 2 by omega] at l3
    rw [← sumsL_ev ev] at l1 l2 l3
    have g : ∀ N : Nat, N ≤ 9 → Gd 10000 2 (.tuple ((List.replicate N S).map .int)) := fun N hN => by
      have := gd_T (a := List.replicate N S) fun x hx => by rw [(List.mem_replicate.mp hx).2]; exact Sb
      rw [List.length_replicate] at this
      exact this.mono (by omega) (by omega)
    have rp : biD .repr [.d (.tup [tupI (List.replicate n S), tupI (List.replicate n S), tupI [S, S]])] h = some (.d (.rp (.tuple [.tuple ((List.replicate n S).map .int), .tuple ((List.replicate n S).map .int), .tuple ([S, S].map .int)]))) := by
      refine repr_ok (r := .d (.tup [tupI (List.replicate n S), tupI (List.replicate n S), tupI [S, S]])) (dp := 3) ?_ (Gds.cons (g n n9) (Gds.cons (g n n9) (Gds.cons (g 2 (by omega)) Gds.nil))).tup (by decide) (by decide)
      have pT : ∀ l : List Int, py h 39 (tupI l) = some (.tuple (l.map .int)) := fun l => by
        show (match allO ((IL l).map (py h 38)) with | some l => some (PyData.tuple l) | none => none) = _
        rw [py_I h 37 l]
      show (match allO [py h 39 (tupI (List.replicate n S)), py h 39 (tupI (List.replicate n S)), py h 39 (tupI [S, S])] with | some l => some (PyData.tuple l) | none => none) = _
      rw [pT, pT]; rfl
    exact cmp_ok (bi_ok (cons_ok (call_ok (xs := [.d (sqF n c)]) (cons_ok (v_ok rfl) nil_ok) nil_ok rfl s0) nil_ok) rp)
      (bi_ok (cons_ok (tup_ok (rs := [.d (tupI (List.replicate n S)), .d (tupI (List.replicate n S)), .d (tupI [S, S])])
        (cons_ok (bi_ok (cons_ok (sl_ok (l := none) (u := some (n : Int)) (x := .d (.lst (sumsL n c))) (v_ok rfl) part_f (part_t (v_ok rfl)) l1) nil_ok) (tup_fl _ h))
          (cons_ok (bi_ok (cons_ok (sl_ok (l := some (n : Int)) (u := some (2 * (n : Int))) (x := .d (.lst (sumsL n c))) (v_ok rfl) (part_t (v_ok rfl)) (part_t (bin_ok (op := .Mult) (x := .d (.int 2)) (y := .d (.int n)) c_ok (v_ok rfl) two)) l2) nil_ok) (tup_fl _ h))
            (cons_ok (bi_ok (cons_ok (sl_ok (l := some (2 * (n : Int))) (u := none) (x := .d (.lst (sumsL n c))) (v_ok rfl) (part_t (bin_ok (op := .Mult) (x := .d (.int 2)) (y := .d (.int n)) c_ok (v_ok rfl) two)) part_f l3) nil_ok) (tup_fl _ h)) nil_ok))) ln3) nil_ok) rp) (rp_ne _ _)
  -- 13
  refine nx (en' := enC x0 n c a b d P) (h' := h) ?_ ?_
  · unfold st13
    refine ite_no (x := .d (.bl false)) ?_ rfl
    simp only [dSs, dS, dE, dEs, dT, dTs, dI, dIf]
    have lc := kLc_all2 (elt := kBin .Mult (kV 22) (kV 22)) (tg := kNm 22) (it := kIe (kV 13)) (ifs := kYes) (own := [22]) (en := enC x0 n c a b d P) (h := h) (h1 := h) (c := .st (IL a)) (ds := IL a) (xs := IL (a.map fun x => x * x)) (ie_ok (r := .d (tupI a)) (v_ok rfl) (cur_tup _ _)) (Ys_st _) (by
      have z := All2.map (P := fun d' x => kTurn (kBin .Mult (kV 22) (kV 22)) (kNm 22) kYes (wipeE (enC x0 n c a b d P) [22]) d' h = .ok (some x) h) (f := fun x : Int => D.int x) (g := fun x : Int => D.int (x * x)) (l := a) fun x hx =>
        turn_ok (r := .d (.int (x * x))) (en1 := [some x0, some (.ref 1), some (.int n), some (sqF n c), some (.lst (sumsL n c)), none, none, none, none, some d, none, none, some (.lst (linesD n)), some (tupI a), some (tupI b), some (.rp P), none, none, none, none, none, none, some (.int x), none, none]) (h1 := h) (h2 := h) (nm_ok (lt_b rfl)) yes_ok (bin_ok (op := .Mult) (x := .d (.int x)) (y := .d (.int x)) (v_ok rfl) (v_ok rfl) (mul_lo x x h (by have := sa.bd x hx; omega)))
      rw [show IL (a.map fun x => x * x) = a.map fun x : Int => D.int (x * x) from List.map_map ..]
      exact z) (by rw [len_I]; unfold FUEL; omega)
    have i0 : ixD (.d (.lst (sumsL n c))) (.d (.int 0)) h = some (.int S) := by rw [sumsL_ev ev]; exact atI_rep _ S (by omega)
    refine cmp_ok (x := .d (tupI [pw a 0, pw a 1, pw a 2])) (y := .d (tupI [(n : Int), S, (a.map fun x => x * x).sum])) (call_ok (xs := [.d (tupI a), .d (.int 2)]) (cons_ok (v_ok rfl) (cons_ok c_ok nil_ok)) nil_ok rfl (power_ok (k := 12) (by omega) (fun x hx => by have := sa.bd x hx; omega) h))
      (tup_ok (rs := [.d (.int n), .d (.int S), .d (.int (a.map fun x => x * x).sum)]) (cons_ok (v_ok rfl) (cons_ok (ix_ok (x := .d (.lst (sumsL n c))) (y := .d (.int 0)) (v_ok rfl) c_ok i0) (cons_ok (bi_ok (cons_ok lc nil_ok) (sum_I _ h)) nil_ok))) ln3) ((cne (eq_T _ _ h)).trans ?_)
    rw [pw_zero, sa.sum, pw_two, la]; simp
  -- 14
  refine nx (en' := enC x0 n c a b d P) (h' := h) ?_ rfl
  unfold st14
  refine ite_no (x := .d (.bl false)) ?_ rfl
  simp only [dSs, dS, dE, dEs, dT, dTs, dI, dIf]
  have tw := twice (k := 10) mk q.bd (by decide) h
  cases g : (evenB n c && evenB n fun i j => c i j * c i j) with
  | false =>
    rw [g] at tw
    exact and_f (cmp_ok (x := .d (.bl false)) (call_ok (xs := [.d (sqF n c)]) (cons_ok (v_ok rfl) nil_ok) nil_ok rfl tw) c_ok rfl) rfl
  | true =>
    rw [g] at tw
    rw [Bool.and_eq_true] at g
    have e2 := even_ev g.2 (by omega)
    obtain ⟨Q, hQ⟩ : ∃ Q, Q = sm n ((fun i j => c i j * c i j) 0) := ⟨_, rfl⟩
    rw [← hQ] at e2
    have two : pw b 2 = Q := by
      obtain ⟨l, hl, rfl⟩ := List.mem_map.mp hb
      rw [pw_perm (srt_perm l)]; exact lines_two e2 l hl
    have ls := lsums (k := 11) n mk (fun i j => c i j * c i j) h
    rw [sumsL_ev e2] at ls
    have pb := power_ok (k := 12) (l := b) (by omega) (fun x hx => by have := sb.bd x hx; omega) h
    rw [two] at pb
    exact and_t (x := .d (.bl true)) (cmp_ok (x := .d (.bl true)) (call_ok (xs := [.d (sqF n c)]) (cons_ok (v_ok rfl) nil_ok) nil_ok rfl tw) c_ok rfl) rfl
      (cmp_ok (x := .d (.int Q)) (y := .d (.int Q)) (ix_ok (x := .fl (IL (List.replicate (n + n + 2) Q))) (y := .d (.int 0)) (call_ok (xs := [.d (sqF n fun i j => c i j * c i j)]) (cons_ok (call_ok (xs := [.d (sqF n c)]) (cons_ok (v_ok rfl) nil_ok) nil_ok rfl (squared (k := 12) mk q.bd (by decide) h)) nil_ok) nil_ok rfl ls) c_ok (atI_rep _ Q (by omega)))
        (ix_ok (x := .d (tupI [pw b 0, pw b 1, Q])) (y := .d (.int 2)) (call_ok (xs := [.d (tupI b), .d (.int 2)]) (cons_ok (v_ok rfl) (cons_ok c_ok nil_ok)) nil_ok rfl pb) c_ok rfl) ((nei _ _ h).trans (by simp)))
end K96
end

section
set_option Elab.async false
set_option linter.all false
set_option maxRecDepth 100000
set_option maxHeartbeats 4000000
open MP PySem
namespace K96
def enD (x0 : D) (n : Nat) (c : Nat → Nat → Int) (a b : List Int) (P : PyData) (x5 x6 x7 x8 : Option D) (x9 : D) (x16 x17 : Option D) : En := [some x0, some (.ref 1), some (.int n), some (sqF n c), some (.lst (sumsL n c)), x5, x6, x7, x8, some x9, none, none, some (.lst (linesD n)), some (tupI a), some (tupI b), some (.rp P), x16, x17, none, none, none, none, none, none, none]
/-- four drawn numbers -/
structure F4 (l : List Int) : Prop where
  ex : ∃ a b c d, l = [a, b, c, d]
  bd : ∀ x ∈ l, x.natAbs ≤ 15
theorem four_draw (x0 : D) (n : Nat) (c : Nat → Nat → Int) (a b : List Int) (P : PyData) (top : Nat) (ht : top ≤ 15) (x6 x7 : Option D) (x9 : D) (h : Hh) (p : Pt [] h) :
    ∃ l h', kBi .tup (kCons (kLc (kBin .Sub (kCall cl13 20 (kCons (kV 1) (kCons (kBin .Add (kBin .Mult (kC (.int 2)) (kV 5)) (kC (.int 1))) kNil)) kNil [0, 1]) (kV 5)) (kNm 10) (kRg1 (kC (.int 4))) kYes [10]) kNil) (enD x0 n c a b P (some (.int top)) x6 x7 none x9 none none) h = .ok (.d (tupI l)) h' ∧ F4 l ∧ Pt [] h' := by
  obtain ⟨ys, h', e, p', al⟩ := kLc_ysI (elt := kBin .Sub (kCall cl13 20 (kCons (kV 1) (kCons (kBin .Add (kBin .Mult (kC (.int 2)) (kV 5)) (kC (.int 1))) kNil)) kNil [0, 1]) (kV 5)) (tg := kNm 10) (it := kRg1 (kC (.int 4))) (ifs := kYes) (own := [10]) (en := enD x0 n c a b P (some (.int top)) x6 x7 none x9 none none) (h := h) (h1 := h) (c := .st (nums 4)) (Pt []) (fun _ y => ∃ x : Int, y = .int x ∧ x.natAbs ≤ 15) (ds := nums 4) (rg_ok (n := 4) c_ok (by decide)) (Ys_st _) (fun d _ h p => by
      obtain ⟨z, h2, e2, hz, p2⟩ := of_draw (cs := cs) (k := 12) i20 p (2 * top + 1) (by omega) (by omega)
      have m2 := mul_lo 2 (top : Int) h (by decide)
      have a2 := add_i (2 * (top : Int)) 1 h
      rw [show 2 * (top : Int) + 1 = ((2 * top + 1 : Nat) : Int) by omega] at a2
      refine ⟨.int ((z : Int) - top), h2, turn_ok (r := .d (.int ((z : Int) - top))) (en1 := [some x0, some (.ref 1), some (.int n), some (sqF n c), some (.lst (sumsL n c)), some (.int top), x6, x7, none, some x9, some d, none, some (.lst (linesD n)), some (tupI a), some (tupI b), some (.rp P), none, none, none, none, none, none, none, none, none]) (nm_ok (lt_b rfl)) yes_ok ?_, ⟨_, rfl, by omega⟩, p2⟩
      exact bin_ok (op := .Sub) (x := .d (.int z)) (y := .d (.int top)) (call_ok (xs := [.d (.ref 1), .d (.int (2 * top + 1 : Nat))]) (cons_ok (v_ok rfl) (cons_ok (bin_ok (op := .Add) (x := .d (.int (2 * (top : Int)))) (y := .d (.int 1)) (bin_ok (op := .Mult) (x := .d (.int 2)) (y := .d (.int top)) c_ok (v_ok rfl) m2) c_ok a2) nil_ok)) nil_ok rfl e2) (v_ok rfl) (sub_i _ _ h2)) (by simp [FUEL]) p
  obtain ⟨y1, r1, rfl, ⟨a1, rfl, b1⟩, al1⟩ := all2_cons al
  obtain ⟨y2, r2, rfl, ⟨a2, rfl, b2⟩, al2⟩ := all2_cons al1
  obtain ⟨y3, r3, rfl, ⟨a3, rfl, b3⟩, al3⟩ := all2_cons al2
  obtain ⟨y4, r4, rfl, ⟨a4, rfl, b4⟩, al4⟩ := all2_cons al3
  have := all2_nil al4
  subst this
  refine ⟨[a1, a2, a3, a4], h', bi_ok (cons_ok e nil_ok) rfl, ⟨⟨a1, a2, a3, a4, rfl⟩, fun x hx => ?_⟩, p'⟩
  simp only [List.mem_cons, List.not_mem_nil, or_false] at hx
  rcases hx with rfl | rfl | rfl | rfl <;> assumption
end K96
end

section
set_option Elab.async false
set_option linter.all false
set_option maxRecDepth 100000
set_option maxHeartbeats 4000000
open MP PySem
namespace K96
theorem mul_bd {x y : Int} (h : x.natAbs ≤ 15) (g : y.natAbs ≤ 15) : -225 ≤ x * y ∧ x * y ≤ 225 := by
  have : (x * y).natAbs ≤ 15 * 15 := by rw [Int.natAbs_mul]; exact Nat.mul_le_mul h g
  omega
theorem fr_bd {a b c d p q r s : Int} (ha : a.natAbs ≤ 15) (hb : b.natAbs ≤ 15) (hc : c.natAbs ≤ 15) (hd : d.natAbs ≤ 15) (hp : p.natAbs ≤ 15) (hq : q.natAbs ≤ 15) (hr : r.natAbs ≤ 15) (hs : s.natAbs ≤ 15) : ∀ row ∈ fr a b c d p q r s, ∀ x ∈ row, x.natAbs ≤ 900 := by
  have h1 := mul_bd ha hp; have h2 := mul_bd ha hq; have h3 := mul_bd ha hr; have h4 := mul_bd ha hs
  have h5 := mul_bd hb hp; have h6 := mul_bd hb hq; have h7 := mul_bd hb hr; have h8 := mul_bd hb hs
  have h9 := mul_bd hc hp; have h10 := mul_bd hc hq; have h11 := mul_bd hc hr; have h12 := mul_bd hc hs
  have h13 := mul_bd hd hp; have h14 := mul_bd hd hq; have h15 := mul_bd hd hr; have h16 := mul_bd hd hs
  intro row hrow x hx
  unfold fr at hrow
  simp only [List.mem_cons, List.not_mem_nil, or_false] at hrow
  rcases hrow with rfl | rfl | rfl | rfl <;> (simp only [List.mem_cons, List.not_mem_nil, or_false] at hx; rcases hx with rfl | rfl | rfl | rfl <;> ((try simp only [Int.neg_mul]); omega))
theorem fr_len (a b c d p q r s : Int) : ∀ row ∈ fr a b c d p q r s, row.length = 4 := by
  intro row hrow
  unfold fr at hrow
  simp only [List.mem_cons, List.not_mem_nil, or_false] at hrow
  rcases hrow with rfl | rfl | rfl | rfl <;> rfl
/-- a row of squares, sorted -/
def sqs (row : List Int) : List Int := srtI (row.map fun x => x * x)
theorem sqs_sum (row : List Int) : pw (sqs row) 1 = (row.map fun x => x * x).sum := by
  unfold sqs
  rw [pw_perm (srt_perm _), pw_one]
theorem sqs_len (row : List Int) : (sqs row).length = row.length := by
  unfold sqs
  rw [(srt_perm _).length_eq, List.length_map]
theorem sqs_bd {row : List Int} (h : ∀ x ∈ row, x.natAbs ≤ 900) : Bq (sqs row) := fun x hx => by
  obtain ⟨y, hy, rfl⟩ := List.mem_map.mp ((srt_perm _).mem_iff.mp hx)
  rw [Int.natAbs_mul]
  have := Nat.mul_le_mul (h y hy) (h y hy)
  omega
end K96
end

section
set_option Elab.async false
set_option linter.all false
set_option maxRecDepth 100000
set_option maxHeartbeats 4000000
open MP PySem
namespace K96
/-- statement 18: the rows of squares, sorted -/
theorem rows_ok (x0 : D) (n : Nat) (c : Nat → Nat → Int) (u v : List Int) (P : PyData) (x5 : Option D) (f g : List Int) (x9 : D) (h : Hh) (R : List (List Int)) (call : callD cl13 12 [tupI f, tupI g] h = .ok (.d (rowsT R)) h) (bd : ∀ row ∈ R, ∀ x ∈ row, x.natAbs ≤ 900) (len : ∀ row ∈ R, row.length = 4) (lr : R.length < 1000) :
    dS cl13 cs st18 (enD x0 n c u v P x5 (some (tupI f)) (some (tupI g)) none x9 none none) h = .ok (.nx (enD x0 n c u v P x5 (some (tupI f)) (some (tupI g)) (some (.lst (R.map fun row => tupI (sqs row)))) x9 none none)) h := by
  unfold st18
  simp only [dSs, dS, dE, dEs, dT, dTs, dI, dIf]
  refine asg_ok (r := .fl (R.map fun row => tupI (sqs row))) ?_ (nm_ok (lt_b rfl))
  refine kLc_all2 (c := .st (R.map tupI)) (ds := R.map tupI) (ie_ok (r := .d (rowsT R)) (call_ok (xs := [.d (tupI f), .d (tupI g)]) (cons_ok (v_ok rfl) (cons_ok (v_ok rfl) nil_ok)) nil_ok rfl call) rfl) (Ys_st _) (All2.map fun row hr => ?_) (by rw [List.length_map]; unfold FUEL; omega)
  have l4 := len row hr
  refine turn_ok (r := .d (tupI (sqs row))) (en1 := [some x0, some (.ref 1), some (.int n), some (sqF n c), some (.lst (sumsL n c)), x5, some (tupI f), some (tupI g), none, some x9, none, none, some (.lst (linesD n)), some (tupI u), some (tupI v), some (.rp P), none, none, none, none, some (tupI row), none, none, none, none]) (h1 := h) (h2 := h) (nm_ok (lt_b rfl)) yes_ok ?_
  have inner : kLc (kBin .Mult (kV 22) (kV 22)) (kNm 22) (kIe (kV 20)) kYes [22] [some x0, some (.ref 1), some (.int n), some (sqF n c), some (.lst (sumsL n c)), x5, some (tupI f), some (tupI g), none, some x9, none, none, some (.lst (linesD n)), some (tupI u), some (tupI v), some (.rp P), none, none, none, none, some (tupI row), none, none, none, none] h = .ok (.fl (IL (row.map fun x => x * x))) h := by
    refine kLc_all2 (c := .st (IL row)) (ds := IL row) (ie_ok (r := .d (tupI row)) (v_ok rfl) (cur_tup _ _)) (Ys_st _) ?_ (by rw [len_I, l4]; unfold FUEL; omega)
    rw [show IL (row.map fun x => x * x) = row.map fun x : Int => D.int (x * x) from List.map_map ..]
    refine All2.map fun x hx => ?_
    have := bd row hr x hx
    exact turn_ok (r := .d (.int (x * x))) (en1 := [some x0, some (.ref 1), some (.int n), some (sqF n c), some (.lst (sumsL n c)), x5, some (tupI f), some (tupI g), none, some x9, none, none, some (.lst (linesD n)), some (tupI u), some (tupI v), some (.rp P), none, none, none, none, some (tupI row), none, some (.int x), none, none]) (h1 := h) (h2 := h) (nm_ok (lt_b rfl)) yes_ok (bin_ok (op := .Mult) (x := .d (.int x)) (y := .d (.int x)) (v_ok rfl) (v_ok rfl) (mul_lo x x h (by omega)))
  exact bi_ok (cons_ok (bi_ok (cons_ok inner nil_ok) (srt_L _ (by rw [List.length_map, l4]; omega) h)) nil_ok) (tup_fl _ h)
end K96
end

section
set_option Elab.async false
set_option linter.all false
set_option maxRecDepth 100000
set_option maxHeartbeats 4000000
open MP PySem
namespace K96
theorem fourP (x0 : D) (n : Nat) (c : Nat → Nat → Int) (u v : List Int) (d : D) (P : PyData) (h : Hh) (p : Pt [] h) : ∃ x5 x6 x7 x8 x9 x16 x17 h', Pt [] h' ∧
    ∀ tail, dSs cl13 cs (.cons st15 <| .cons st16 <| .cons st17 <| .cons st18 <| .cons st19 <| .cons st20 <| .cons st21 <| tail) (enC x0 n c u v d P) h = dSs cl13 cs tail (enD x0 n c u v P x5 x6 x7 x8 x9 x16 x17) h' := by
  obtain ⟨w, h1, e1, hw, p1⟩ := one_draw (cs := cs) (k := 11) i21 i20 p (.lst [.int 3, .int 15]) _ (fun _ _ _ => rfl) (by simp) (by simp) rfl
  have tp : ∃ top : Nat, w = .int top ∧ top ≤ 15 := by
    simp only [List.mem_cons, List.not_mem_nil, or_false] at hw
    rcases hw with rfl | rfl
    · exact ⟨3, rfl, by omega⟩
    · exact ⟨15, rfl, by omega⟩
  obtain ⟨top, rfl, ht⟩ := tp
  obtain ⟨f, h2, e2, F, p2⟩ := four_draw x0 n c u v P top ht none none d h1 p1
  obtain ⟨g, h3, e3, G, p3⟩ := four_draw x0 n c u v P top ht (some (tupI f)) none d h2 p2
  obtain ⟨a, b, cc, dd, rfl⟩ := F.ex
  obtain ⟨pp, qq, r, s, rfl⟩ := G.ex
  have ba := F.bd a (by simp); have bb := F.bd b (by simp); have bc := F.bd cc (by simp); have bdd := F.bd dd (by simp)
  have bp := G.bd pp (by simp); have bq := G.bd qq (by simp); have br := G.bd r (by simp); have bs := G.bd s (by simp)
  obtain ⟨R, hR⟩ : ∃ R, R = fr a b cc dd pp qq r s := ⟨_, rfl⟩
  have Rb : ∀ row ∈ R, ∀ x ∈ row, x.natAbs ≤ 900 := hR ▸ fr_bd ba bb bc bdd bp bq br bs
  have Rl : ∀ row ∈ R, row.length = 4 := hR ▸ fr_len a b cc dd pp qq r s
  have Rs : ∀ row ∈ R, (row.map fun x => x * x).sum = ([a, b, cc, dd].map fun x => x * x).sum * ([pp, qq, r, s].map fun x => x * x).sum := hR ▸ fr_sum a b cc dd pp qq r s
  have R4 : R.length = 4 := by rw [hR]; rfl
  have call := four_call (k := 12) (a := a) (b := b) (c := cc) (d := dd) pp qq r s (by omega) (by omega) (by omega) (by omega) h3
  rw [← hR] at call
  obtain ⟨i, h4, e4, hi, p4⟩ := of_draw (cs := cs) (k := 12) i20 p3 4 (by decide) (by decide)
  obtain ⟨j, h5, e5, hj, p5⟩ := of_draw (cs := cs) (k := 12) i20 p4 4 (by decide) (by decide)
  obtain ⟨A, hA⟩ : ∃ A, R[i]? = some A := ⟨_, List.getElem?_eq_getElem (by omega)⟩
  obtain ⟨B, hB⟩ : ∃ B, R[j]? = some B := ⟨_, List.getElem?_eq_getElem (by omega)⟩
  have mA := List.mem_of_getElem? hA
  have mB := List.mem_of_getElem? hB
  have at_ : ∀ (i : Nat) (A : List Int), R[i]? = some A → L2.atI (R.map fun row => tupI (sqs row)) (i : Int) = some (tupI (sqs A)) := fun i A hA => by
    obtain ⟨hi, e⟩ := List.getElem?_eq_some_iff.mp hA
    have : (R.map fun row => tupI (sqs row)) = (List.range R.length).map fun k => tupI (sqs (R.getD k [])) := by
      refine List.ext_getElem (by simp) fun k h1 h2 => ?_
      have hk : k < R.length := by simpa using h1
      rw [List.getElem_map, List.getElem_map, List.getElem_range, List.getD_eq_getElem?_getD, List.getElem?_eq_getElem hk]; rfl
    rw [this, atI_tab hi, List.getD_eq_getElem?_getD, hA]; rfl
  obtain ⟨d', ag⟩ := ag_of (l := sqs A) (m := sqs B) (by rw [sqs_len, sqs_len, Rl A mA, Rl B mB]) (by rw [sqs_len, Rl A mA]; omega) (srt_asc _) (srt_asc _) (sqs_bd (Rb A mA)) (sqs_bd (Rb B mB))
  have sA : pw (sqs A) 1 = ([a, b, cc, dd].map fun x => x * x).sum * ([pp, qq, r, s].map fun x => x * x).sum := by rw [sqs_sum, Rs A mA]
  have sB : pw (sqs B) 1 = ([a, b, cc, dd].map fun x => x * x).sum * ([pp, qq, r, s].map fun x => x * x).sum := by rw [sqs_sum, Rs B mB]
  refine ⟨some (.int top), some (tupI [a, b, cc, dd]), some (tupI [pp, qq, r, s]), some (.lst (R.map fun row => tupI (sqs row))), d', some (tupI (sqs A)), some (tupI (sqs B)), h5, p5, fun tail => ?_⟩
  refine nx (en' := enD x0 n c u v P (some (.int top)) none none none d none none) (h' := h1) ?_ ?_
  · unfold st15
    simp only [dSs, dS, dE, dEs, dT, dTs, dI, dIf]
    exact asg_ok (call_ok (xs := [.d (.ref 1), .fl [.int 3, .int 15]]) (cons_ok (v_ok rfl) (cons_ok (lst_ok (rs := [.d (.int 3), .d (.int 15)]) (cons_ok c_ok (cons_ok c_ok nil_ok)) ln2) nil_ok)) nil_ok rfl e1) (nm_ok (lt_b rfl))
  refine nx (en' := enD x0 n c u v P (some (.int top)) (some (tupI [a, b, cc, dd])) none none d none none) (h' := h2) ?_ ?_
  · unfold st16
    simp only [dSs, dS, dE, dEs, dT, dTs, dI, dIf]
    exact asg_ok e2 (nm_ok (lt_b rfl))
  refine nx (en' := enD x0 n c u v P (some (.int top)) (some (tupI [a, b, cc, dd])) (some (tupI [pp, qq, r, s])) none d none none) (h' := h3) ?_ ?_
  · unfold st17
    simp only [dSs, dS, dE, dEs, dT, dTs, dI, dIf]
    exact asg_ok e3 (nm_ok (lt_b rfl))
  refine nx (rows_ok x0 n c u v P (some (.int top)) _ _ d h3 R call Rb Rl (by omega)) ?_
  refine nx (en' := enD x0 n c u v P (some (.int top)) (some (tupI [a, b, cc, dd])) (some (tupI [pp, qq, r, s])) (some (.lst (R.map fun row => tupI (sqs row)))) d (some (tupI (sqs A))) (some (tupI (sqs B)))) (h' := h5) ?_ ?_
  · unfold st19
    simp only [dSs, dS, dE, dEs, dT, dTs, dI, dIf]
    exact asg_ok (tup_ok (rs := [.d (tupI (sqs A)), .d (tupI (sqs B))]) (cons_ok (ix_ok (x := .d (.lst (R.map fun row => tupI (sqs row)))) (y := .d (.int i)) (v_ok rfl) (call_ok (xs := [.d (.ref 1), .d (.int 4)]) (cons_ok (v_ok rfl) (cons_ok c_ok nil_ok)) nil_ok rfl e4) (at_ i A hA)) (cons_ok (ix_ok (x := .d (.lst (R.map fun row => tupI (sqs row)))) (y := .d (.int j)) (v_ok rfl) (call_ok (xs := [.d (.ref 1), .d (.int 4)]) (cons_ok (v_ok rfl) (cons_ok c_ok nil_ok)) nil_ok rfl e5) (at_ j B hB)) nil_ok)) ln2)
      (tp_ok (ds := [tupI (sqs A), tupI (sqs B)]) rfl (tcons_ok (nm_ok (lt_b rfl)) (tcons_ok (nm_ok (lt_b rfl)) tnil_ok)))
  refine nx (en' := enD x0 n c u v P (some (.int top)) (some (tupI [a, b, cc, dd])) (some (tupI [pp, qq, r, s])) (some (.lst (R.map fun row => tupI (sqs row)))) d' (some (tupI (sqs A))) (some (tupI (sqs B)))) (h' := h5) ?_ ?_
  · unfold st20
    simp only [dSs, dS, dE, dEs, dT, dTs, dI, dIf]
    exact asg_ok (call_ok (xs := [.d (tupI (sqs A)), .d (tupI (sqs B))]) (cons_ok (v_ok rfl) (cons_ok (v_ok rfl) nil_ok)) nil_ok rfl (ag_law (k := 12) ag h5)) (nm_ok (lt_b rfl))
  refine nx (en' := enD x0 n c u v P (some (.int top)) (some (tupI [a, b, cc, dd])) (some (tupI [pp, qq, r, s])) (some (.lst (R.map fun row => tupI (sqs row)))) d' (some (tupI (sqs A))) (some (tupI (sqs B)))) (h' := h5) ?_ rfl
  unfold st21
  refine ite_no (x := .d (.bl false)) ?_ rfl
  simp only [dSs, dS, dE, dEs, dT, dTs, dI, dIf]
  have agc := ag_agree (k := 12) ag (by rw [sqs_len, Rl A mA]; omega) h5
  have f1 := fsum_call (k := 12) [a, b, cc, dd] (by simp) (fun x hx => by have := F.bd x hx; omega) h5
  have f2 := fsum_call (k := 12) [pp, qq, r, s] (by simp) (fun x hx => by have := G.bd x hx; omega) h5
  obtain ⟨X, hX⟩ : ∃ X, X = ([a, b, cc, dd].map fun x => x * x).sum := ⟨_, rfl⟩
  obtain ⟨Y, hY⟩ : ∃ Y, Y = ([pp, qq, r, s].map fun x => x * x).sum := ⟨_, rfl⟩
  have Xb : X.natAbs < 18446744073709551616 := by
    have h1 := mul_bd ba ba; have h2 := mul_bd bb bb; have h3 := mul_bd bc bc; have h4 := mul_bd bdd bdd
    rw [hX]
    simp only [List.map_cons, List.map_nil, List.sum_cons, List.sum_nil]
    omega
  rw [← hX] at f1 sA sB
  rw [← hY] at f2 sA sB
  have last : kCmp .NotEq (kBi .sum (kCons (kV 16) kNil)) (kBin .Mult (kCall cl13 13 (kCons (kV 6) kNil) kNil [0]) (kCall cl13 13 kNil (kCons (kV 7) kNil) [0])) (enD x0 n c u v P (some (.int top)) (some (tupI [a, b, cc, dd])) (some (tupI [pp, qq, r, s])) (some (.lst (R.map fun row => tupI (sqs row)))) d' (some (tupI (sqs A))) (some (tupI (sqs B)))) h5 = .ok (.d (.bl false)) h5 := by
    have su := sum_T (sqs A) h5
    rw [← pw_one, sA] at su
    exact cmp_ok (x := .d (.int (X * Y))) (y := .d (.int (X * Y))) (bi_ok (cons_ok (v_ok rfl) nil_ok) su) (bin_ok (op := .Mult) (x := .d (.int X)) (y := .d (.int Y)) (call_ok (xs := [.d (tupI [a, b, cc, dd])]) (cons_ok (v_ok rfl) nil_ok) nil_ok rfl f1) (call_ok (ys := [.d (tupI [pp, qq, r, s])]) nil_ok (cons_ok (v_ok rfl) nil_ok) rfl f2) (mul_lo X Y h5 Xb)) ((nei _ _ h5).trans (by simp))
  have ne0 : cmpD .NotEq (.d d') (.d d') h5 = some false := by
    cases ag with
    | eq e => kernel_rfl
    | ne df => exact (nei _ _ h5).trans (by simp)
  refine or_f (x := .d (.bl false)) (cmp_ok (call_ok (xs := [.d (tupI (sqs A)), .d (tupI (sqs B))]) (cons_ok (v_ok rfl) (cons_ok (v_ok rfl) nil_ok)) nil_ok rfl agc) (v_ok rfl) ne0) rfl (or_f (x := .d (.bl false)) (h1 := h5) ?_ rfl last)
  cases ag with
  | eq e => exact and_f (cmp_ok (x := .d .non) (v_ok rfl) c_ok rfl) rfl
  | @ne K df =>
    have k2 := df.two (by rw [sA, sB])
    refine and_t (x := .d (.bl true)) (cmp_ok (x := .d (.int (K - 1 : Nat))) (v_ok rfl) c_ok rfl) rfl (cmp_ok (x := .d (.int (K - 1 : Nat))) (y := .d (.int 1)) (v_ok rfl) c_ok ?_)
    show some (decide (((K - 1 : Nat) : Int) < 1)) = _
    rw [decide_eq_false (by omega)]
end K96
end

section
set_option Elab.async false
set_option linter.all false
set_option maxRecDepth 100000
set_option maxHeartbeats 4000000
open MP PySem
namespace K96
def enE (x0 : D) (n : Nat) (c : Nat → Nat → Int) (a b : List Int) (x5 x6 x7 x8 : Option D) (x9 : D) (x10 x11 x16 x17 x18 x19 : Option D) : En := [some x0, some (.ref 1), some (.int n), some (sqF n c), some (.lst (sumsL n c)), x5, x6, x7, x8, some x9, x10, x11, some (.lst (linesD n)), some (tupI a), some (tupI b), some (.rp (keptP n c a b)), x16, x17, x18, x19, none, none, none, none, none]
theorem rows_rp {C E : List Int} (lc : C.length < 100) (le : E.length < 100) (bc : ∀ x ∈ C, x.natAbs < 1000) (be : ∀ x ∈ E, x.natAbs < 1000) (h : Hh) : biD .repr [.d (rowsT [C, E])] h = some (.d (.rp (.tuple [.tuple (C.map .int), .tuple (E.map .int)]))) := by
  have g1 := gd_T (a := C) fun x hx => by have := bc x hx; omega
  have g2 := gd_T (a := E) fun x hx => by have := be x hx; omega
  refine repr_ok (r := .d (rowsT [C, E])) (dp := 3) ?_ (Gds.cons (g1.mono (B' := 10000) (dp' := 2) (by omega) (by omega)) (Gds.cons (g2.mono (B' := 10000) (dp' := 2) (by omega) (by omega)) Gds.nil)).tup (by decide) (by decide)
  have pT : ∀ l : List Int, py h 39 (tupI l) = some (.tuple (l.map .int)) := fun l => by
    show (match allO ((IL l).map (py h 38)) with | some l => some (PyData.tuple l) | none => none) = _
    rw [py_I h 37 l]
  show (match allO [py h 39 (tupI C), py h 39 (tupI E)] with | some l => some (PyData.tuple l) | none => none) = _
  rw [pT, pT]; rfl
theorem endP {n : Nat} {c : Nat → Nat → Int} (q : Sq n c) {a b : List Int} (ha : a ∈ (linesC n c).map srtI) (hb : b ∈ (linesC n c).map srtI) (x0 : D) (x5 x6 x7 x8 : Option D) (x9 : D) (x16 x17 : Option D) (h : Hh) (p : Pt [] h) : ∃ h', 
    dSs cl13 cs (.cons st22 <| .cons st23 <| .cons st24 <| .cons st25 <| .cons st26 <| .cons st27 .nil) (enD x0 n c a b (keptP n c a b) x5 x6 x7 x8 x9 x16 x17) h = .ok (.rt (.d (.bl true))) h' := by
  obtain ⟨S, ev⟩ := q.ev
  have sa := SL.of ev q.bd ha
  have sb := SL.of ev q.bd hb
  obtain ⟨k, h1, e1, hk, p1⟩ := of_draw (cs := cs) (k := 12) i20 p 5 (by decide) (by decide)
  obtain ⟨A, B, C, E, g⟩ := dg k hk
  refine ⟨h1, ?_⟩
  refine nx (en' := enE x0 n c a b x5 x6 x7 x8 x9 (some (.int k)) none x16 x17 none none) (h' := h1) ?_ ?_
  · unfold st22
    simp only [dSs, dS, dE, dEs, dT, dTs, dI, dIf]
    exact asg_ok (call_ok (xs := [.d (.ref 1), .d (.int 5)]) (cons_ok (v_ok rfl) (cons_ok c_ok nil_ok)) nil_ok rfl e1) (nm_ok (lt_b rfl))
  have ad := add_i (k : Int) 1 h1
  refine nx (en' := enE x0 n c a b x5 x6 x7 x8 x9 (some (.int k)) none x16 x17 (some (rowsT [A, B])) (some (rowsT [C, E]))) (h' := h1) ?_ ?_
  · unfold st23
    simp only [dSs, dS, dE, dEs, dT, dTs, dI, dIf]
    exact asg_ok (tup_ok (rs := [.d (rowsT [A, B]), .d (rowsT [C, E])]) (cons_ok (call_ok (xs := [.d (.int 2), .d (.int k)]) (cons_ok c_ok (cons_ok (v_ok rfl) nil_ok)) nil_ok rfl (g.lots h1)) (cons_ok (call_ok (xs := [.d (.int 2), .d (.int ((k : Int) + 1))]) (cons_ok c_ok (cons_ok (bin_ok (op := .Add) (x := .d (.int k)) (y := .d (.int 1)) (v_ok rfl) c_ok ad) nil_ok)) nil_ok rfl (g.more h1)) nil_ok)) ln2)
      (tp_ok (ds := [rowsT [A, B], rowsT [C, E]]) rfl (tcons_ok (nm_ok (lt_b rfl)) (tcons_ok (nm_ok (lt_b rfl)) tnil_ok)))
  have m2 := mul_lo 2 (A.length : Int) h1 (by decide)
  refine nx (en' := enE x0 n c a b x5 x6 x7 x8 x9 (some (.int k)) (some (.int (2 * (A.length : Int)))) x16 x17 (some (rowsT [A, B])) (some (rowsT [C, E]))) (h' := h1) ?_ ?_
  · unfold st24
    simp only [dSs, dS, dE, dEs, dT, dTs, dI, dIf]
    exact asg_ok (bin_ok (op := .Mult) (x := .d (.int 2)) (y := .d (.int A.length)) c_ok (bi_ok (cons_ok (ix_ok (x := .d (rowsT [A, B])) (y := .d (.int 0)) (v_ok rfl) c_ok rfl) nil_ok) (len_TI A h1)) m2) (nm_ok (lt_b rfl))
  refine nx (en' := enE x0 n c a b x5 x6 x7 x8 x9 (some (.int k)) (some (.int (2 * (A.length : Int)))) x16 x17 (some (rowsT [A, B])) (some (rowsT [C, E]))) (h' := h1) ?_ ?_
  · unfold st25
    refine ite_no (x := .d (.bl false)) ?_ rfl
    simp only [dSs, dS, dE, dEs, dT, dTs, dI, dIf]
    have rp := rows_rp g.lc g.le g.bc g.be h1
    exact cmp_ok (bi_ok (cons_ok (call_ok (xs := [.d (tupI A), .d (tupI B), .d (.int (2 * (A.length : Int)))]) (cons_ok (ix_ok (x := .d (rowsT [A, B])) (y := .d (.int 0)) (v_ok rfl) c_ok rfl) (cons_ok (ix_ok (x := .d (rowsT [A, B])) (y := .d (.int 1)) (v_ok rfl) c_ok rfl) (cons_ok (v_ok rfl) nil_ok))) nil_ok rfl (g.nb h1)) nil_ok) rp)
      (bi_ok (cons_ok (tup_ok (rs := [.d (tupI C), .d (tupI E)]) (cons_ok (ix_ok (x := .d (rowsT [C, E])) (y := .d (.int 0)) (v_ok rfl) c_ok rfl) (cons_ok (ix_ok (x := .d (rowsT [C, E])) (y := .d (.int 1)) (v_ok rfl) c_ok rfl) nil_ok)) ln2) nil_ok) rp) (rp_ne _ _)
  refine nx (en' := enE x0 n c a b x5 x6 x7 x8 x9 (some (.int k)) (some (.int (2 * (A.length : Int)))) x16 x17 (some (rowsT [A, B])) (some (rowsT [C, E]))) (h' := h1) ?_ ?_
  · unfold st26
    refine ite_no (x := .d (.bl false)) ?_ rfl
    simp only [dSs, dS, dE, dEs, dT, dTs, dI, dIf]
    exact or_f (x := .d (.bl false)) (cmp_ok (x := .d (.int k)) (y := .d (.int k)) (call_ok (xs := [.d (tupI A), .d (tupI B)]) (cons_ok (ix_ok (x := .d (rowsT [A, B])) (y := .d (.int 0)) (v_ok rfl) c_ok rfl) (cons_ok (ix_ok (x := .d (rowsT [A, B])) (y := .d (.int 1)) (v_ok rfl) c_ok rfl) nil_ok)) nil_ok rfl (g.a1 h1)) (v_ok rfl) ((nei _ _ h1).trans (by simp))) rfl
      (cmp_ok (x := .d (.int ((k : Int) + 1))) (y := .d (.int ((k : Int) + 1))) (call_ok (xs := [.d (tupI C), .d (tupI E)]) (cons_ok (ix_ok (x := .d (rowsT [C, E])) (y := .d (.int 0)) (v_ok rfl) c_ok rfl) (cons_ok (ix_ok (x := .d (rowsT [C, E])) (y := .d (.int 1)) (v_ok rfl) c_ok rfl) nil_ok)) nil_ok rfl (g.a2 h1)) (bin_ok (op := .Add) (x := .d (.int k)) (y := .d (.int 1)) (v_ok rfl) c_ok ad) ((nei _ _ h1).trans (by simp)))
  unfold st27
  simp only [dSs, dS, dE, dEs, dT, dTs, dI, dIf]
  exact seq_rt (ret_ok (cmp_ok (bi_ok (cons_ok (lst_ok (rs := [.d (sqF n c), .d (tupI a), .d (tupI b)]) (cons_ok (v_ok rfl) (cons_ok (v_ok rfl) (cons_ok (v_ok rfl) nil_ok))) ln3) nil_ok) (kept_ok q.n9 q.bd sa sb h1)) (v_ok rfl) (rp_eq _ h1)))
def depth : Nat := 14
theorem run : ∀ ns : List Int, ns.length ≤ 63 → ∃ h', runF cs fds depth 28 [.lst (ns.map D.int)] [] = .ok (.d (.bl true)) h' := by
  intro ns hn
  obtain ⟨cells, m, e0, l0⟩ := pot_call (cs := cs) (fds := fds) (k := 12) (i := 19) (fd := f__law_pot) rfl rfl rfl rfl rfl ns hn
  have p0 : Pt [] (pot cells m 0 []) := ⟨cells, m, 0, rfl, l0⟩
  obtain ⟨n, c, a, b, h1, q, ha, hb, p1, a1⟩ := headP (.lst (ns.map D.int)) _ p0
  obtain ⟨d, ag, a2⟩ := agP q ha hb (.lst (ns.map D.int)) h1
  have a3 := sumP q ha hb (.lst (ns.map D.int)) d (keptP n c a b) h1
  obtain ⟨x5, x6, x7, x8, x9, x16, x17, h2, p2, a4⟩ := fourP (.lst (ns.map D.int)) n c a b d (keptP n c a b) h1 p1
  obtain ⟨h3, e3⟩ := endP q ha hb (.lst (ns.map D.int)) x5 x6 x7 x8 x9 x16 x17 h2 p2
  refine ⟨[], ?_⟩
  have body : dSs cl13 cs b_law [some (.lst (ns.map D.int)), none, none, none, none, none, none, none, none, none, none, none, none, none, none, none, none, none, none, none, none, none, none, none, none] [] = .ok (.rt (.d (.bl true))) h3 := by
    rw [law_split]
    refine nx (en' := [some (.lst (ns.map D.int)), some (.ref 1), none, none, none, none, none, none, none, none, none, none, none, none, none, none, none, none, none, none, none, none, none, none, none]) (h' := pot cells m 0 []) ?_ ((a1 _).trans ((a2 _).trans ((a3 _).trans ((a4 _).trans e3))))
    unfold st0
    simp only [dSs, dS, dE, dEs, dT, dTs, dI, dIf]
    exact asg_ok (call_ok (xs := [.d (.lst (ns.map D.int))]) (cons_ok (v_ok rfl) nil_ok) nil_ok rfl e0) (nm_ok (lt_b rfl))
  show runF cs fds (13 + 1) 28 _ _ = _
  rw [run_rt (fd := f_law) (r := .d (.bl true)) (h' := h3) rfl ⟨rfl, by decide⟩ body]
  rfl
end K96
end

section
set_option Elab.async false
set_option maxRecDepth 100000
set_option maxHeartbeats 0
open PySem PySem.W PyProof.Rows
set_option maxHeartbeats 0 in
theorem PySem.Challenge.cw_equalsums_k96_whole_bags_and_squares_holds : PySem.Challenge.rw_equalsums_k96_whole_bags_and_squares.Holds := by
  w_on; o_law; k_head; (case hw => w_witness2)
  k_fill
  refine MP.law_of (l := PySem.Challenge.rw_equalsums_k96_whole_bags_and_squares) (cs := K96.cs) (cn := K96.cn) (fds := K96.fds) (sts := K96.sts) (i := 28) (k := K96.depth) rfl rfl ⟨rfl, by decide, by decide⟩ (fun w h Y => PySem.W.kIn_of Y) ?O rfl (by decide) rfl K96.run
  case O =>
    intro w mg h KX G
    have h_is_integer : MP.HasM (L2.KOf KX) mg ("is_integer" : PySem.Str) (K96.topS 4) := by
      refine' MP.hasM_mk KX G ("is_integer" : PySem.Str) ?a ?l ?c ?k
      (case a => k_is); (case l => k_is); (case c => k_is); (case k => k_is)
    have h_bag_error : MP.HasM (L2.KOf KX) mg ("bag_error" : PySem.Str) (K96.topS 5) := by
      refine' MP.hasM_mk KX G ("bag_error" : PySem.Str) ?a ?l ?c ?k
      (case a => k_is); (case l => k_is); (case c => k_is); (case k => k_is)
    have h_power_sums : MP.HasM (L2.KOf KX) mg ("power_sums" : PySem.Str) (K96.topS 6) := by
      refine' MP.hasM_mk KX G ("power_sums" : PySem.Str) ?a ?l ?c ?k
      (case a => k_is); (case l => k_is); (case c => k_is); (case k => k_is)
    have h_agree_to : MP.HasM (L2.KOf KX) mg ("agree_to" : PySem.Str) (K96.topS 7) := by
      refine' MP.hasM_mk KX G ("agree_to" : PySem.Str) ?a ?l ?c ?k
      (case a => k_is); (case l => k_is); (case c => k_is); (case k => k_is)
    have h_next_bags : MP.HasM (L2.KOf KX) mg ("next_bags" : PySem.Str) (K96.topS 8) := by
      refine' MP.hasM_mk KX G ("next_bags" : PySem.Str) ?a ?l ?c ?k
      (case a => k_is); (case l => k_is); (case c => k_is); (case k => k_is)
    have h_one_order : MP.HasM (L2.KOf KX) mg ("one_order" : PySem.Str) (K96.topS 13) := by
      refine' MP.hasM_mk KX G ("one_order" : PySem.Str) ?a ?l ?c ?k
      (case a => k_is); (case l => k_is); (case c => k_is); (case k => k_is)
    have h_product_row : MP.HasM (L2.KOf KX) mg ("product_row" : PySem.Str) (K96.topS 14) := by
      refine' MP.hasM_mk KX G ("product_row" : PySem.Str) ?a ?l ?c ?k
      (case a => k_is); (case l => k_is); (case c => k_is); (case k => k_is)
    have h_is_far_pair : MP.HasM (L2.KOf KX) mg ("is_far_pair" : PySem.Str) (K96.topS 15) := by
      refine' MP.hasM_mk KX G ("is_far_pair" : PySem.Str) ?a ?l ?c ?k
      (case a => k_is); (case l => k_is); (case c => k_is); (case k => k_is)
    have h_digit_place : MP.HasM (L2.KOf KX) mg ("digit_place" : PySem.Str) (K96.topS 17) := by
      refine' MP.hasM_mk KX G ("digit_place" : PySem.Str) ?a ?l ?c ?k
      (case a => k_is); (case l => k_is); (case c => k_is); (case k => k_is)
    have h_digit_lots : MP.HasM (L2.KOf KX) mg ("digit_lots" : PySem.Str) (K96.topS 18) := by
      refine' MP.hasM_mk KX G ("digit_lots" : PySem.Str) ?a ?l ?c ?k
      (case a => k_is); (case l => k_is); (case c => k_is); (case k => k_is)
    have h_line_sums : MP.HasM (L2.KOf KX) mg ("line_sums" : PySem.Str) (K96.topS 20) := by
      refine' MP.hasM_mk KX G ("line_sums" : PySem.Str) ?a ?l ?c ?k
      (case a => k_is); (case l => k_is); (case c => k_is); (case k => k_is)
    have h_is_even_square : MP.HasM (L2.KOf KX) mg ("is_even_square" : PySem.Str) (K96.topS 21) := by
      refine' MP.hasM_mk KX G ("is_even_square" : PySem.Str) ?a ?l ?c ?k
      (case a => k_is); (case l => k_is); (case c => k_is); (case k => k_is)
    have h_four_rows : MP.HasM (L2.KOf KX) mg ("four_rows" : PySem.Str) (K96.topS 23) := by
      refine' MP.hasM_mk KX G ("four_rows" : PySem.Str) ?a ?l ?c ?k
      (case a => k_is); (case l => k_is); (case c => k_is); (case k => k_is)
    have h_four_sum : MP.HasM (L2.KOf KX) mg ("four_sum" : PySem.Str) (K96.topS 24) := by
      refine' MP.hasM_mk KX G ("four_sum" : PySem.Str) ?a ?l ?c ?k
      (case a => k_is); (case l => k_is); (case c => k_is); (case k => k_is)
    have h_squared_square : MP.HasM (L2.KOf KX) mg ("squared_square" : PySem.Str) (K96.topS 26) := by
      refine' MP.hasM_mk KX G ("squared_square" : PySem.Str) ?a ?l ?c ?k
      (case a => k_is); (case l => k_is); (case c => k_is); (case k => k_is)
    have h_is_twice_even : MP.HasM (L2.KOf KX) mg ("is_twice_even" : PySem.Str) (K96.topS 27) := by
      refine' MP.hasM_mk KX G ("is_twice_even" : PySem.Str) ?a ?l ?c ?k
      (case a => k_is); (case l => k_is); (case c => k_is); (case k => k_is)
    have h_eight_square : MP.HasM (L2.KOf KX) mg ("eight_square" : PySem.Str) (K96.topS 28) := by
      refine' MP.hasM_mk KX G ("eight_square" : PySem.Str) ?a ?l ?c ?k
      (case a => k_is); (case l => k_is); (case c => k_is); (case k => k_is)
    have h_nine_cell : MP.HasM (L2.KOf KX) mg ("nine_cell" : PySem.Str) (K96.topS 29) := by
      refine' MP.hasM_mk KX G ("nine_cell" : PySem.Str) ?a ?l ?c ?k
      (case a => k_is); (case l => k_is); (case c => k_is); (case k => k_is)
    have h_nine_square : MP.HasM (L2.KOf KX) mg ("nine_square" : PySem.Str) (K96.topS 30) := by
      refine' MP.hasM_mk KX G ("nine_square" : PySem.Str) ?a ?l ?c ?k
      (case a => k_is); (case l => k_is); (case c => k_is); (case k => k_is)
    have h__law_pot : MP.HasM (L2.KOf KX) mg ("_law_pot" : PySem.Str) (K96.topS 32) := by
      refine' MP.hasM_mk KX G ("_law_pot" : PySem.Str) ?a ?l ?c ?k
      (case a => k_is); (case l => k_is); (case c => k_is); (case k => k_is)
    have h__law_of : MP.HasM (L2.KOf KX) mg ("_law_of" : PySem.Str) (K96.topS 33) := by
      refine' MP.hasM_mk KX G ("_law_of" : PySem.Str) ?a ?l ?c ?k
      (case a => k_is); (case l => k_is); (case c => k_is); (case k => k_is)
    have h__law_one : MP.HasM (L2.KOf KX) mg ("_law_one" : PySem.Str) (K96.topS 34) := by
      refine' MP.hasM_mk KX G ("_law_one" : PySem.Str) ?a ?l ?c ?k
      (case a => k_is); (case l => k_is); (case c => k_is); (case k => k_is)
    have h__law_order : MP.HasM (L2.KOf KX) mg ("_law_order" : PySem.Str) (K96.topS 35) := by
      refine' MP.hasM_mk KX G ("_law_order" : PySem.Str) ?a ?l ?c ?k
      (case a => k_is); (case l => k_is); (case c => k_is); (case k => k_is)
    have h__law_lines : MP.HasM (L2.KOf KX) mg ("_law_lines" : PySem.Str) (K96.topS 36) := by
      refine' MP.hasM_mk KX G ("_law_lines" : PySem.Str) ?a ?l ?c ?k
      (case a => k_is); (case l => k_is); (case c => k_is); (case k => k_is)
    have h__law_line_sums : MP.HasM (L2.KOf KX) mg ("_law_line_sums" : PySem.Str) (K96.topS 37) := by
      refine' MP.hasM_mk KX G ("_law_line_sums" : PySem.Str) ?a ?l ?c ?k
      (case a => k_is); (case l => k_is); (case c => k_is); (case k => k_is)
    have h__law_turned : MP.HasM (L2.KOf KX) mg ("_law_turned" : PySem.Str) (K96.topS 38) := by
      refine' MP.hasM_mk KX G ("_law_turned" : PySem.Str) ?a ?l ?c ?k
      (case a => k_is); (case l => k_is); (case c => k_is); (case k => k_is)
    have h__law_even_of : MP.HasM (L2.KOf KX) mg ("_law_even_of" : PySem.Str) (K96.topS 39) := by
      refine' MP.hasM_mk KX G ("_law_even_of" : PySem.Str) ?a ?l ?c ?k
      (case a => k_is); (case l => k_is); (case c => k_is); (case k => k_is)
    have h__law_agree : MP.HasM (L2.KOf KX) mg ("_law_agree" : PySem.Str) (K96.topS 40) := by
      refine' MP.hasM_mk KX G ("_law_agree" : PySem.Str) ?a ?l ?c ?k
      (case a => k_is); (case l => k_is); (case c => k_is); (case k => k_is)
    have h_law : MP.HasM (L2.KOf KX) mg ("law" : PySem.Str) (K96.topS 41) := by
      refine' MP.hasM_mk KX G ("law" : PySem.Str) ?a ?l ?c ?k
      (case a => k_is); (case l => k_is); (case c => k_is); (case k => k_is)
    have hb : ∀ x, x ∈ MP.bltNames → mg x = none := by
      refine' MP.blt_mk KX G ?b1 ?b2 ?b3 ?b4 ?b5 ?b6 ?b7 ?b8 ?b9 ?b10 ?b11 ?b12 ?b13 ?b14 ?b15 ?b16 ?b17 ?b18 ?b19
      (case b1 => k_is); (case b2 => k_is); (case b3 => k_is); (case b4 => k_is); (case b5 => k_is); (case b6 => k_is); (case b7 => k_is); (case b8 => k_is); (case b9 => k_is); (case b10 => k_is); (case b11 => k_is); (case b12 => k_is); (case b13 => k_is); (case b14 => k_is); (case b15 => k_is); (case b16 => k_is); (case b17 => k_is); (case b18 => k_is); (case b19 => k_is)
    have k_MAX_BAG : ∃ u, mg (K96.cn.getD 0 MP.n_len) = some u ∧ MP.vrK (L2.KOf KX) 6 K96.c_MAX_BAG u = true := by
      refine' MP.hasC_mk (nm := ("MAX_BAG" : PySem.Str)) KX G ?a ?v ?e
      (case a => k_is); (case v => kernel_rfl); (case e => decide)
    have k_MAX_BAGGED : ∃ u, mg (K96.cn.getD 1 MP.n_len) = some u ∧ MP.vrK (L2.KOf KX) 6 K96.c_MAX_BAGGED u = true := by
      refine' MP.hasC_mk (nm := ("MAX_BAGGED" : PySem.Str)) KX G ?a ?v ?e
      (case a => k_is); (case v => kernel_rfl); (case e => decide)
    have k_MAX_DIGITED : ∃ u, mg (K96.cn.getD 2 MP.n_len) = some u ∧ MP.vrK (L2.KOf KX) 6 K96.c_MAX_DIGITED u = true := by
      refine' MP.hasC_mk (nm := ("MAX_DIGITED" : PySem.Str)) KX G ?a ?v ?e
      (case a => k_is); (case v => kernel_rfl); (case e => decide)
    exact ⟨K96.chk, rfl, MP.HasL.all ⟨h_is_integer.named (by decide), h_bag_error.named (by decide), h_power_sums.named (by decide), h_agree_to.named (by decide), h_next_bags.named (by decide), h_one_order.named (by decide), h_product_row.named (by decide), h_is_far_pair.named (by decide), h_digit_place.named (by decide), h_digit_lots.named (by decide), h_line_sums.named (by decide), h_is_even_square.named (by decide), h_four_rows.named (by decide), h_four_sum.named (by decide), h_squared_square.named (by decide), h_is_twice_even.named (by decide), h_eight_square.named (by decide), h_nine_cell.named (by decide), h_nine_square.named (by decide), h__law_pot.named (by decide), h__law_of.named (by decide), h__law_one.named (by decide), h__law_order.named (by decide), h__law_lines.named (by decide), h__law_line_sums.named (by decide), h__law_turned.named (by decide), h__law_even_of.named (by decide), h__law_agree.named (by decide), h_law.named (by decide), trivial⟩, hb, MP.HasC.all (cn := K96.cn) (cs := K96.cs) ⟨k_MAX_BAG, k_MAX_BAGGED, k_MAX_DIGITED, trivial⟩⟩
end
