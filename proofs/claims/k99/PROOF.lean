import PyProof.Rows.All
import Wide.All
import OpenK.AllK
import Wide.FinOn
import HandS.ForMost
import HandS.Wide
import HandS.TupAny
import HandS.TupMul
import HandS.Style
import HandS.Deep
import HandS.IsInst
import HandS.Zip
import KE.SortData
import HandS.Flow
import HandS.Conv
import HandS.SetFor
import KE.KTupSum
import KE.DataMinMax
import HandS.TupSets
import HandS.RaiseMore
import KE.GoesEnum
import KE.KDictZip
import HandS.Comp
import HandS.Words
import PySem.Challenge.RW_equalsums_k99_whole_ladders_and_lists
section
set_option Elab.async false
set_option linter.all false
set_option maxRecDepth 100000
set_option maxHeartbeats 4000000
namespace MP
open PySem L2

/-! ## values, heap, outcomes -/
inductive D where
  | non | bl (b : Bool) | int (i : Int) | str (s : Str) | rp (p : PyData)
  | tup (ds : List D) | lst (ds : List D) | ref (n : Nat)
  deriving Inhabited

inductive O where
  | lst (ds : List D)
  deriving Inhabited
abbrev Hh := List O

structure Ex where
  cls : Nat
  args : List D

inductive Out (α : Type) where
  | ok (a : α) (h : Hh) | er (e : Ex) (h : Hh) | no

def Out.bind {α β : Type} (o : Out α) (k : α → Hh → Out β) : Out β := match o with
  | .ok a h => k a h
  | .er e h => .er e h
  | .no => .no

/-- a result: a value, or a list that nobody else holds -/
inductive R where
  | d (x : D) | fl (ds : List D)
  deriving Inhabited
def R.toD : R → D
  | .d x => x
  | .fl ds => .lst ds

/-! ## syntax -/
inductive BI where
  | len | abs | sum | mn | mx | mn2 | mx2 | srt | lst | tup | int | str | repr | any | all
  | isInt | isBool | isTup | isLst | isStr
  | lenset | lzip | lrng1 | lrng2
  deriving DecidableEq

inductive ME where
  | append | extend | pop | popAt
  deriving DecidableEq

mutual
inductive E where
  | v (i : Nat)
  | c (d : D)
  | g (k : Nat)
  | tup (es : Es)
  | lst (es : Es)
  | bin (op : Operator) (a b : E)
  | neg (a : E)
  | not (a : E)
  | cmp (op : CmpOp) (a b : E)
  | chain (o1 o2 : CmpOp) (a b c : E)
  | and (a b : E)
  | or (a b : E)
  | ite (t a b : E)
  | ix (a b : E)
  | sl (b1 b2 : Bool) (a lo hi : E)
  | none
  | rev (a : E)
  | call (f : Nat) (ps kws : Es) (pm : List Nat)
  | bi (b : BI) (es : Es)
  | meth (m : ME) (o : E) (es : Es)
  | lc (elt : E) (tg : T) (it : I) (ifs : Es) (own : List Nat)
  | al (e : E)
inductive Es where
  | nil | cons (e : E) (es : Es)
inductive T where
  | nm (i : Nat) | tp (ts : Ts) | sb (a i : E)
inductive Ts where
  | nil | cons (t : T) (ts : Ts)
inductive I where
  | e (a : E) | rg1 (a : E) | rg2 (a b : E) | en (a : E) | zp (a b : E)
end

mutual
inductive S where
  | asg (t : T) (e : E)
  | exp (e : E)
  | ret (e : E)
  | ite (t : E) (a b : Ss)
  | for (t : T) (it : I) (body : Ss)
  | while (t : E) (body : Ss)
  | pass
  | raise
inductive Ss where
  | nil | cons (s : S) (ss : Ss)
end

/-! ## helpers -/
mutual
def lowD (n : Nat) : D → Bool
  | .tup ds => lowAll n ds
  | .lst ds => lowAll n ds
  | .ref m => decide (m < n)
  | _ => true
def lowAll (n : Nat) : List D → Bool
  | [] => true
  | d :: ds => lowD n d && lowAll n ds
end
def lowR (n : Nat) : R → Bool
  | .d x => lowD n x
  | .fl ds => lowAll n ds

def allO {α : Type} : List (Option α) → Option (List α)
  | [] => some []
  | some a :: r => match allO r with
    | some l => some (a :: l)
    | none => none
  | none :: _ => none

/-- the plain datum that a value stands for -/
def py (h : Hh) : Nat → D → Option PyData
  | 0, _ => none
  | k + 1, d => match d with
    | .non => some .none
    | .bl b => some (.bool b)
    | .int i => some (.int i)
    | .str s => some (.str s)
    | .rp p => some (.str p.shown)
    | .tup ds => match allO (ds.map (py h k)) with
      | some l => some (.tuple l)
      | none => none
    | .lst ds => match allO (ds.map (py h k)) with
      | some l => some (.list l)
      | none => none
    | .ref n => match h[n]? with
      | some (.lst ds) => match allO (ds.map (py h k)) with
        | some l => some (.list l)
        | none => none
      | none => none
abbrev deep : Nat := 40

/-- a list's items -/
def viewL (h : Hh) : R → Option (List D)
  | .fl ds => some ds
  | .d (.lst ds) => some ds
  | .d (.ref n) => match h[n]? with
    | some (.lst ds) => some ds
    | none => none
  | _ => none
def viewT : R → Option (List D)
  | .d (.tup ds) => some ds
  | _ => none
def viewS (h : Hh) (r : R) : Option (List D) := match viewT r with
  | some ds => some ds
  | none => viewL h r

def intsD : List D → Option (List Int)
  | [] => some []
  | .int i :: r => match intsD r with
    | some l => some (i :: l)
    | none => none
  | _ :: _ => none
def boolsD : List D → Option (List Bool)
  | [] => some []
  | .bl i :: r => match boolsD r with
    | some l => some (i :: l)
    | none => none
  | _ :: _ => none

/-- truth -/
def truth (h : Hh) : R → Option Bool
  | .d .non => some false
  | .d (.bl b) => some b
  | .d (.int i) => some (i != 0)
  | .d (.tup ds) => some (!ds.isEmpty)
  | r => match viewL h r with
    | some ds => some (!ds.isEmpty)
    | none => none

def line (n : Nat) : Bool := decide (n ≤ sizeLine)

/-! ## operators -/
abbrev Op2 := R → R → Hh → Option R
def addL (x y : R) (h : Hh) : Option R := match viewL h x, viewL h y with
  | some a, some b => if line (a.length + b.length) then some (.fl (a ++ b)) else none
  | _, _ => none
def addD (x y : R) (h : Hh) : Option R := match x, y with
  | .d (.int i), .d (.int j) => some (.d (.int (i + j)))
  | .d (.tup a), .d (.tup b) => if line (a.length + b.length) then some (.d (.tup (a ++ b))) else none
  | x, y => addL x y h
def subD (x y : R) (_ : Hh) : Option R := match x, y with
  | .d (.int i), .d (.int j) => some (.d (.int (i - j)))
  | _, _ => none
def mulL (x : R) (k : Int) (h : Hh) : Option R := match viewL h x with
  | some a => if -(2 ^ 63) ≤ k ∧ k < 2 ^ 63 ∧ a.length * k.toNat ≤ sizeLine then some (.fl (List.replicate k.toNat a).flatten) else none
  | _ => none
/-- a product that the machine makes: a factor below 2^64, or of together less than a million bits -/
def mulOk (i j : Int) : Bool := Nat.blt i.natAbs 18446744073709551616 || (Nat.blt j.natAbs 18446744073709551616 || Nat.blt (i.natAbs.log2 + j.natAbs.log2) 1000000)
def mulD (x y : R) (h : Hh) : Option R := match x, y with
  | .d (.int i), .d (.int j) => if mulOk i j then some (.d (.int (i * j))) else none
  | .d (.tup a), .d (.int k) => if 1 ≤ a.length ∧ a.length ≤ 1000 ∧ 2 ≤ k ∧ k ≤ 1000 then some (.d (.tup (List.replicate k.toNat a).flatten)) else none
  | x, .d (.int k) => mulL x k h
  | _, _ => none
def fdivD (x y : R) (_ : Hh) : Option R := match x, y with
  | .d (.int i), .d (.int j) => if 0 < j ∧ j.natAbs.log2 < 9000 then some (.d (.int (i / j))) else none
  | _, _ => none
def modD (x y : R) (_ : Hh) : Option R := match x, y with
  | .d (.int i), .d (.int j) => if 0 < j then some (.d (.int (i % j))) else none
  | _, _ => none
def powD (x y : R) (_ : Hh) : Option R := match x, y with
  | .d (.int i), .d (.int j) => if 0 ≤ j ∧ j ≤ 1000000 ∧ i.natAbs < 2 ^ 64 then some (.d (.int (i ^ j.toNat))) else none
  | _, _ => none
def bandD (x y : R) (_ : Hh) : Option R := match x, y with
  | .d (.int i), .d (.int j) => some (.d (.int (Builtin.bitAnd i j)))
  | _, _ => none
def noD (_ _ : R) (_ : Hh) : Option R := none
def binD : Operator → Op2
  | .Add => addD
  | .Sub => subD
  | .Mult => mulD
  | .FloorDiv => fdivD
  | .Mod => modD
  | .Pow => powD
  | .BitAnd => bandD
  | _ => noD

mutual
/-- the same datum, to the sign -/
def same : PyData → PyData → Bool
  | .none, .none => true
  | .bool a, .bool b => a == b
  | .int a, .int b => decide (a = b)
  | .str a, .str b => decide (a = b)
  | .list a, .list b => sames a b
  | .tuple a, .tuple b => sames a b
  | _, _ => false
def sames : List PyData → List PyData → Bool
  | [], [] => true
  | x :: xs, y :: ys => same x y && sames xs ys
  | _, _ => false
end

def eqD (x y : R) (h : Hh) : Option Bool :=
  match x, y with
  | .d (.int i), .d (.int j) => some (decide (i = j))
  | .d (.rp p), .d (.rp q) => some (same p q || (p.shown == q.shown))
  | x, y => match py h deep x.toD, py h deep y.toD with
    | some a, some b => if SeqAt.shaped a && SeqAt.shaped b then some (PyData.eqv a b) else none
    | _, _ => none

def inD (x y : R) (h : Hh) : Option Bool :=
  match py h deep x.toD, viewL h y, py h deep y.toD with
  | some a, some _, some (.list bs) => if SeqAt.shaped a && SeqAt.shaped (.list bs) then some (bs.any fun z => PyData.eqv z a) else none
  | _, _, _ => none

def ltD (x y : R) (_ : Hh) : Option Bool := match x, y with
  | .d (.int i), .d (.int j) => some (decide (i < j))
  | _, _ => none
def leD (x y : R) (_ : Hh) : Option Bool := match x, y with
  | .d (.int i), .d (.int j) => some (decide (i ≤ j))
  | _, _ => none
def gtD (x y : R) (_ : Hh) : Option Bool := match x, y with
  | .d (.int i), .d (.int j) => some (decide (j < i))
  | _, _ => none
def geD (x y : R) (_ : Hh) : Option Bool := match x, y with
  | .d (.int i), .d (.int j) => some (decide (j ≤ i))
  | _, _ => none
def neD (x y : R) (h : Hh) : Option Bool := match eqD x y h with
  | some b => some (!b)
  | none => none
def ninD (x y : R) (h : Hh) : Option Bool := match inD x y h with
  | some b => some (!b)
  | none => none
def isD (x y : R) (_ : Hh) : Option Bool := match x, y with
  | .d (.bl a), .d (.bl b) => some (decide (a = b))
  | .d .non, .d .non => some true
  | _, .d .non => some false
  | _, _ => none
def nisD (x y : R) (h : Hh) : Option Bool := match isD x y h with
  | some b => some (!b)
  | none => none
def cmpD : CmpOp → R → R → Hh → Option Bool
  | .Lt => ltD
  | .LtE => leD
  | .Gt => gtD
  | .GtE => geD
  | .Eq => eqD
  | .NotEq => neD
  | .In => inD
  | .NotIn => ninD
  | .Is => isD
  | .IsNot => nisD

def at? (ds : List D) (i : Int) : Option D := L2.atI ds i

def ixD (x y : R) (h : Hh) : Option D := match y with
  | .d (.int i) => match viewS h x with
    | some ds => L2.atI ds i
    | none => none
  | _ => none

def cutD (ds : List D) (lo hi : Option Int) : List D := (ds.drop (HT.sIx ds.length 0 lo)).take (HT.sIx ds.length ds.length hi - HT.sIx ds.length 0 lo)
def slD (x : R) (lo hi : Option Int) (h : Hh) : Option R := match viewT x with
  | some ds => some (.d (.tup (cutD ds lo hi)))
  | none => match viewL h x with
    | some ds => some (.fl (cutD ds lo hi))
    | none => none
def revD (x : R) (h : Hh) : Option R := match viewT x with
  | some ds => some (.d (.tup ds.reverse))
  | none => match viewL h x with
    | some ds => some (.fl ds.reverse)
    | none => none

/-! ### sorting: as the library's order says -/
def pys (h : Hh) (ds : List D) : Option (List PyData) := allO (ds.map (py h deep))
/-- a stable sort -/
def insBy {α : Type} (le : α → α → Bool) (x : α) : List α → List α
  | [] => [x]
  | y :: r => if le x y then x :: y :: r else y :: insBy le x r
def isort {α : Type} (le : α → α → Bool) : List α → List α
  | [] => []
  | x :: r => insBy le x (isort le r)
/-- ints to the same depth -/
def flatI : Nat → PyData → Bool
  | 0, .int _ => true
  | k + 1, .tuple xs => xs.all (flatI k)
  | _, _ => false
def alikes2 : List PyData → Bool
  | [] => true
  | x :: r => PySem.W.alike x x && r.all (fun y => PySem.W.alike x y && PySem.W.alike y x) && alikes2 r
def alikes (ps : List PyData) : Bool := ps.all (flatI 0) || (ps.all (flatI 1) || (ps.all (flatI 2) || (ps.all (flatI 3) || alikes2 ps)))
def tupNE : PyData → Bool
  | .tuple (_ :: _) => true
  | _ => false
def plainK : PyData → Bool
  | .none => false
  | .tuple _ => false
  | _ => true
def srtD (ds : List D) (h : Hh) : Option R := match pys h ds with
  | some ps => if line ds.length && alikes ps && (ps.all tupNE || ps.all plainK) && ps.all (fun p => decide (p.depth ≤ 40)) then
      some (.fl ((isort (PySem.W.dataLe false (fun b : D × PyData => b.2)) (ds.zip ps)).map (·.1))) else none
  | none => none

def rng (lo hi : Int) : List D := (List.range (hi - lo).toNat).map fun i => D.int (lo + (i : Nat))
def zipD : List D → List D → List D
  | a :: r, b :: s => .tup [a, b] :: zipD r s
  | _, _ => []
def dedup (ns : List Int) : List Int := ns.foldl PyProof.Rows.step_dedup []

mutual
/-- at most so many signs when shown -/
def room : PyData → Nat
  | .none => 4
  | .bool _ => 5
  | .int i => i.natAbs.log2 + 3
  | .str s => 10 * s.length + 2
  | .list l => rooms l + 3
  | .tuple l => rooms l + 3
  | .dict _ => 0
def rooms : List PyData → Nat
  | [] => 0
  | x :: r => room x + 2 + rooms r
end
mutual
def rOk : PyData → Bool
  | .str s => s.cps.toList.all fun c => decide (c < 16 ^ 8)
  | .list l => rOks l
  | .tuple l => rOks l
  | _ => true
def rOks : List PyData → Bool
  | [] => true
  | x :: r => rOk x && rOks r
end
def reprD (x : R) (h : Hh) : Option R := match py h deep x.toD with
  | some p => if p.showable && !p.hasDict && rOk p && decide (p.depth ≤ 40) && line (room p) then some (.d (.rp p)) else none
  | none => none

abbrev B1 := List R → Hh → Option R
/-- the ints of one list or tuple -/
def ints1 (xs : List R) (h : Hh) : Option (List Int) := match xs with
  | [x] => match viewS h x with
    | some ds => intsD ds
    | none => none
  | _ => none
def seq1 (xs : List R) (h : Hh) : Option (List D) := match xs with
  | [x] => viewS h x
  | _ => none
def bLen (xs : List R) (h : Hh) : Option R := match seq1 xs h with
  | some ds => some (.d (.int ds.length))
  | none => none
def bAbs (xs : List R) (_ : Hh) : Option R := match xs with
  | [.d (.int i)] => some (.d (.int (if i < 0 then -i else i)))
  | _ => none
def bSum (xs : List R) (h : Hh) : Option R := match ints1 xs h with
  | some ns => some (.d (.int ns.sum))
  | none => none
def bMn (xs : List R) (h : Hh) : Option R := match ints1 xs h with
  | some (n :: r) => some (.d (.int (r.foldl min n)))
  | _ => none
def bMx (xs : List R) (h : Hh) : Option R := match ints1 xs h with
  | some (n :: r) => some (.d (.int (r.foldl max n)))
  | _ => none
def bMn2 (xs : List R) (_ : Hh) : Option R := match xs with
  | [.d (.int i), .d (.int j)] => some (.d (.int (if j < i then j else i)))
  | _ => none
def bMx2 (xs : List R) (_ : Hh) : Option R := match xs with
  | [.d (.int i), .d (.int j)] => some (.d (.int (if j > i then j else i)))
  | _ => none
def bSrt (xs : List R) (h : Hh) : Option R := match seq1 xs h with
  | some ds => srtD ds h
  | none => none
def bLst (xs : List R) (h : Hh) : Option R := match seq1 xs h with
  | some ds => some (.fl ds)
  | none => none
def bTup (xs : List R) (h : Hh) : Option R := match seq1 xs h with
  | some ds => some (.d (.tup ds))
  | none => none
def bInt (xs : List R) (_ : Hh) : Option R := match xs with
  | [.d (.int i)] => some (.d (.int i))
  | [.d (.bl k)] => some (.d (.int (if k then 1 else 0)))
  | _ => none
def bStr (xs : List R) (_ : Hh) : Option R := match xs with
  | [.d (.int i)] => if i.natAbs.log2 < 1920 then some (.d (.rp (.int i))) else none
  | _ => none
def bRepr (xs : List R) (h : Hh) : Option R := match xs with
  | [x] => reprD x h
  | _ => none
def bools1 (xs : List R) (h : Hh) : Option (List Bool) := match xs with
  | [x] => match viewL h x with
    | some ds => boolsD ds
    | none => none
  | _ => none
def bAny (xs : List R) (h : Hh) : Option R := match bools1 xs h with
  | some bs => some (.d (.bl (bs.any id)))
  | none => none
def bAll (xs : List R) (h : Hh) : Option R := match bools1 xs h with
  | some bs => some (.d (.bl (bs.all id)))
  | none => none
def isInt : D → Bool
  | .int _ => true
  | .bl _ => true
  | _ => false
def isBool : D → Bool
  | .bl _ => true
  | _ => false
def isTup : D → Bool
  | .tup _ => true
  | _ => false
def isLst : D → Bool
  | .lst _ => true
  | .ref _ => true
  | _ => false
def isStr : D → Bool
  | .str _ => true
  | .rp _ => true
  | _ => false
def bIs (f : D → Bool) (xs : List R) (_ : Hh) : Option R := match xs with
  | [.d x] => some (.d (.bl (f x)))
  | [.fl x] => some (.d (.bl (f (.lst x))))
  | _ => none
def bLenset (xs : List R) (h : Hh) : Option R := match ints1 xs h with
  | some ns => if ns.length ≤ 4000 then some (.d (.int (dedup ns).length)) else none
  | none => none
def bLzip (xs : List R) (h : Hh) : Option R := match xs with
  | [x, y] => match viewS h x, viewS h y with
    | some a, some b => if line (a.length + b.length) then some (.fl (zipD a b)) else none
    | _, _ => none
  | _ => none
def bLrng1 (xs : List R) (_ : Hh) : Option R := match xs with
  | [.d (.int j)] => if -(2 ^ 62) ≤ j ∧ j < 2 ^ 62 ∧ j.toNat ≤ sizeLine then some (.fl (rng 0 j)) else none
  | _ => none
def bLrng2 (xs : List R) (_ : Hh) : Option R := match xs with
  | [.d (.int i), .d (.int j)] => if -(2 ^ 62) ≤ i ∧ i < 2 ^ 62 ∧ -(2 ^ 62) ≤ j ∧ j < 2 ^ 62 ∧ (j - i).toNat ≤ sizeLine then some (.fl (rng i j)) else none
  | _ => none
def biD : BI → B1
  | .len => bLen
  | .abs => bAbs
  | .sum => bSum
  | .mn => bMn
  | .mx => bMx
  | .mn2 => bMn2
  | .mx2 => bMx2
  | .srt => bSrt
  | .lst => bLst
  | .tup => bTup
  | .int => bInt
  | .str => bStr
  | .repr => bRepr
  | .any => bAny
  | .all => bAll
  | .isInt => bIs isInt
  | .isBool => bIs isBool
  | .isTup => bIs isTup
  | .isLst => bIs isLst
  | .isStr => bIs isStr
  | .lenset => bLenset
  | .lzip => bLzip
  | .lrng1 => bLrng1
  | .lrng2 => bLrng2

/-- a method of a list: the answer, the heap -/
def mAppend (n : Nat) (ds : List D) (xs : List R) (h : Hh) : Out R := match xs with
  | [x] => if lowD n x.toD ∧ ds.length < sizeLine then .ok (.d .non) (h.set n (.lst (ds ++ [x.toD]))) else .no
  | _ => .no
def mExtend (n : Nat) (ds : List D) (xs : List R) (h : Hh) : Out R := match xs with
  | [x] => match viewL h x with
    | some zs => if lowAll n zs ∧ ds.length + zs.length ≤ sizeLine then .ok (.d .non) (h.set n (.lst (ds ++ zs))) else .no
    | none => .no
  | _ => .no
def mPop (n : Nat) (ds : List D) (xs : List R) (h : Hh) : Out R := match xs with
  | [] => match ds[ds.length - 1]? with
    | some y => .ok (.d y) (h.set n (.lst ds.dropLast))
    | none => .no
  | _ => .no
def popAt (n : Nat) (ds : List D) (o : Option Nat) (h : Hh) : Out R := match o with
  | some k => match ds[k]? with
    | some y => .ok (.d y) (h.set n (.lst (ds.eraseIdx k)))
    | none => .no
  | none => .no
def mPopAt (n : Nat) (ds : List D) (xs : List R) (h : Hh) : Out R := match xs with
  | [.d (.int i)] => if -(2 ^ 63) ≤ i ∧ i < 2 ^ 63 then popAt n ds (seqIndex? i ds.length) h else .no
  | _ => .no
def mD : ME → Nat → List D → List R → Hh → Out R
  | .append => mAppend
  | .extend => mExtend
  | .pop => mPop
  | .popAt => mPopAt
def methD (m : ME) (o : R) (xs : List R) (h : Hh) : Out R := match o with
  | .d (.ref n) => match h[n]? with
    | some (.lst ds) => mD m n ds xs h
    | none => .no
  | _ => .no

/-! ## walks -/
inductive Cur where
  | st (ds : List D)
  | lv (n i : Nat)
  | en (k : Nat) (c : Cur)
  | zp (a b : Cur)
inductive Nx where
  | stuck | stop | it (d : D) (c : Cur)
def next : Cur → Hh → Nx
  | .st [], _ => .stop
  | .st (d :: ds), _ => .it d (.st ds)
  | .lv n i, h => match h[n]? with
    | some (.lst ds) => match ds[i]? with
      | some d => .it d (.lv n (i + 1))
      | none => .stop
    | none => .stuck
  | .en k c, h => match next c h with
    | .it d c' => .it (.tup [.int k, d]) (.en (k + 1) c')
    | .stop => .stop
    | .stuck => .stuck
  | .zp a b, h => match next a h, next b h with
    | .it d a', .it e b' => .it (.tup [d, e]) (.zp a' b')
    | .stop, .it _ _ => .stop
    | .stop, .stop => .stop
    | .it _ _, .stop => .stop
    | _, _ => .stuck
def curOf (h : Hh) : R → Option Cur
  | .fl ds => some (.st ds)
  | .d (.lst ds) => some (.st ds)
  | .d (.tup ds) => some (.st ds)
  | .d (.ref n) => match h[n]? with
    | some (.lst _) => some (.lv n 0)
    | none => none
  | _ => none

abbrev En := List (Option D)
def wipeE (en : En) : List Nat → En
  | [] => en
  | v :: vs => (wipeE en vs).set v none
inductive Fl where
  | nx (en : En) | rt (r : R)

def FUEL : Nat := 1000000
def forLoop (step : D → En → Hh → Out Fl) : Nat → Cur → En → Hh → Out Fl
  | 0, _, _, _ => .no
  | k + 1, c, en, h => match next c h with
    | .stuck => .no
    | .stop => .ok (.nx en) h
    | .it d c' => match step d en h with
      | .ok (.nx en') h' => forLoop step k c' en' h'
      | .ok (.rt r) h' => .ok (.rt r) h'
      | .er e h' => .er e h'
      | .no => .no
def whileLoop (test : En → Hh → Out Bool) (step : En → Hh → Out Fl) : Nat → En → Hh → Out Fl
  | 0, _, _ => .no
  | k + 1, en, h => match test en h with
    | .ok true h1 => match step en h1 with
      | .ok (.nx en') h' => whileLoop test step k en' h'
      | .ok (.rt r) h' => .ok (.rt r) h'
      | .er e h' => .er e h'
      | .no => .no
    | .ok false h1 => .ok (.nx en) h1
    | .er e h' => .er e h'
    | .no => .no
/-- a comprehension's turns: a turn gives an item, or none -/
def lcLoop (step : D → Hh → Out (Option D)) : Nat → Cur → List D → Hh → Out (List D)
  | 0, _, _, _ => .no
  | k + 1, c, acc, h => match next c h with
    | .stuck => .no
    | .stop => .ok acc.reverse h
    | .it d c' => match step d h with
      | .ok (some x) h' => lcLoop step k c' (x :: acc) h'
      | .ok none h' => lcLoop step k c' acc h'
      | .er e h' => .er e h'
      | .no => .no

def ofO {α : Type} (o : Option α) (h : Hh) : Out α := match o with
  | some a => .ok a h
  | none => .no

abbrev Cl := Nat → List D → Hh → Out R

/-! ## what the pieces of a text mean -/
abbrev Den := En → Hh → Out R
abbrev DenL := En → Hh → Out (List R)
def kV (i : Nat) : Den := fun en h => match en[i]? with
  | some (some d) => .ok (.d d) h
  | _ => .no
def kC (d : D) : Den := fun _ h => .ok (.d d) h
def kG (cs : List D) (k : Nat) : Den := fun _ h => match cs[k]? with
  | some d => .ok (.d d) h
  | none => .no
def kTup (es : DenL) : Den := fun en h => match es en h with
  | .ok rs h => if line rs.length then .ok (.d (.tup (rs.map R.toD))) h else .no
  | .er e h => .er e h
  | .no => .no
def kLst (es : DenL) : Den := fun en h => match es en h with
  | .ok rs h => if line rs.length then .ok (.fl (rs.map R.toD)) h else .no
  | .er e h => .er e h
  | .no => .no
def kBin (op : Operator) (a b : Den) : Den := fun en h => (a en h).bind fun x h => (b en h).bind fun y h => ofO (binD op x y h) h
def negR (x : R) (h : Hh) : Out R := match x with
  | .d (.int i) => .ok (.d (.int (-i))) h
  | _ => .no
def kNeg (a : Den) : Den := fun en h => (a en h).bind negR
def blR (o : Option Bool) (h : Hh) : Out R := match o with
  | some b => .ok (.d (.bl b)) h
  | none => .no
def kNot (a : Den) : Den := fun en h => (a en h).bind fun x h => match truth h x with
  | some b => .ok (.d (.bl (!b))) h
  | none => .no
def kCmp (op : CmpOp) (a b : Den) : Den := fun en h => (a en h).bind fun x h => (b en h).bind fun y h => blR (cmpD op x y h) h
def kChain (o1 o2 : CmpOp) (a b c : Den) : Den := fun en h => (a en h).bind fun x h => (b en h).bind fun y h => match cmpD o1 x y h with
  | some true => (c en h).bind fun z h => blR (cmpD o2 y z h) h
  | some false => .ok (.d (.bl false)) h
  | none => .no
def kAnd (a b : Den) : Den := fun en h => (a en h).bind fun x h => match truth h x with
  | some true => b en h
  | some false => .ok x h
  | none => .no
def kOr (a b : Den) : Den := fun en h => (a en h).bind fun x h => match truth h x with
  | some false => b en h
  | some true => .ok x h
  | none => .no
def kIte (t a b : Den) : Den := fun en h => (t en h).bind fun x h => match truth h x with
  | some true => a en h
  | some false => b en h
  | none => .no
def dOut (o : Option D) (h : Hh) : Out R := match o with
  | some d => .ok (.d d) h
  | none => .no
def kIx (a b : Den) : Den := fun en h => (a en h).bind fun x h => (b en h).bind fun y h => dOut (ixD x y h) h
def kPart (b : Bool) (a : Den) : En → Hh → Out (Option Int) := fun en h => match b with
  | false => .ok none h
  | true => (a en h).bind fun r h => match r with
    | .d (.int i) => .ok (some i) h
    | _ => .no
def kSl (b1 b2 : Bool) (a lo hi : Den) : Den := fun en h => (a en h).bind fun x h => (kPart b1 lo en h).bind fun l h => (kPart b2 hi en h).bind fun u h => ofO (slD x l u h) h
def kRev (a : Den) : Den := fun en h => (a en h).bind fun x h => ofO (revD x h) h
/-- a call: of values without lists of the heap it sees no heap -/
def callD (cl : Cl) (f : Nat) (ds : List D) (h : Hh) : Out R := match lowAll 0 ds with
  | true => match cl f ds [] with
    | .ok r [] => .ok r h
    | .er e [] => .er e h
    | _ => cl f ds h
  | false => cl f ds h
def kCall (cl : Cl) (f : Nat) (ps kws : DenL) (pm : List Nat) : Den := fun en h => (ps en h).bind fun xs h => (kws en h).bind fun ys h => match allO (pm.map fun i => (xs ++ ys)[i]?) with
  | some zs => callD cl f (zs.map R.toD) h
  | none => .no
def kBi (b : BI) (es : DenL) : Den := fun en h => (es en h).bind fun xs h => ofO (biD b xs h) h
def kMeth (m : ME) (o : Den) (es : DenL) : Den := fun en h => (o en h).bind fun x h => (es en h).bind fun xs h => methD m x xs h
def kTurn (elt : Den) (tg : En → R → Hh → Out En) (ifs : En → Hh → Out Bool) (en : En) (d : D) (h : Hh) : Out (Option D) :=
  (tg en (.d d) h).bind fun en1 h => (ifs en1 h).bind fun ok h => match ok with
    | true => (elt en1 h).bind fun r h => .ok (some r.toD) h
    | false => .ok none h
def kLc (elt : Den) (tg : En → R → Hh → Out En) (it : En → Hh → Out Cur) (ifs : En → Hh → Out Bool) (own : List Nat) : Den := fun en h =>
  (it en h).bind fun c h => (lcLoop (kTurn elt tg ifs (wipeE en own)) FUEL c [] h).bind fun ds h => .ok (.fl ds) h
def alR (r : R) (h : Hh) : Out R := match r with
  | .fl ds => .ok (.d (.ref h.length)) (h ++ [.lst ds])
  | _ => .no
def kAl (e : Den) : Den := fun en h => (e en h).bind alR
def kNil : DenL := fun _ h => .ok [] h
def kCons (e : Den) (es : DenL) : DenL := fun en h => (e en h).bind fun r h => (es en h).bind fun rs h => .ok (r :: rs) h
def kYes : En → Hh → Out Bool := fun _ h => .ok true h
def kIf (e : Den) (es : En → Hh → Out Bool) : En → Hh → Out Bool := fun en h => (e en h).bind fun r h => match truth h r with
  | some true => es en h
  | some false => .ok false h
  | none => .no
abbrev DenT := En → R → Hh → Out En
abbrev DenTs := En → List D → Hh → Out En
def kNm (i : Nat) : DenT := fun en r h => if i < en.length then .ok (en.set i (some r.toD)) h else .no
def kTp (ts : DenTs) : DenT := fun en r h => match viewT r with
  | some ds => ts en ds h
  | none => .no
def setAt (n : Nat) (k : Int) (r : D) (en : En) (h : Hh) : Out En := match h[n]? with
  | some (.lst ds) => match L2.ixN ds.length k with
    | some j => if lowD n r then .ok en (h.set n (.lst (ds.set j r))) else .no
    | none => .no
  | none => .no
def sbOut (r : D) (en : En) (x y : R) (h : Hh) : Out En := match x, y with
  | .d (.ref n), .d (.int k) => setAt n k r en h
  | _, _ => .no
def kSb (a i : Den) : DenT := fun en r h => (a en h).bind fun x h => (i en h).bind fun y h => sbOut r.toD en x y h
def kTnil : DenTs := fun en ds h => match ds with
  | [] => .ok en h
  | _ => .no
def kTcons (t : DenT) (ts : DenTs) : DenTs := fun en ds h => match ds with
  | d :: ds => (t en (.d d) h).bind fun en h => ts en ds h
  | [] => .no
abbrev DenI := En → Hh → Out Cur
def kIe (a : Den) : DenI := fun en h => (a en h).bind fun r h => ofO (curOf h r) h
def rg1R (r : R) (h : Hh) : Out Cur := match r with
  | .d (.int j) => if -(2 ^ 62) ≤ j ∧ j < 2 ^ 62 then .ok (.st (rng 0 j)) h else .no
  | _ => .no
def kRg1 (a : Den) : DenI := fun en h => (a en h).bind rg1R
def rg2R (r s : R) (h : Hh) : Out Cur := match r, s with
  | .d (.int i), .d (.int j) => if -(2 ^ 62) ≤ i ∧ i < 2 ^ 62 ∧ -(2 ^ 62) ≤ j ∧ j < 2 ^ 62 then .ok (.st (rng i j)) h else .no
  | _, _ => .no
def kRg2 (a b : Den) : DenI := fun en h => (a en h).bind fun r h => (b en h).bind fun s h => rg2R r s h
def enR (r : R) (h : Hh) : Out Cur := match curOf h r with
  | some c => .ok (.en 0 c) h
  | none => .no
def kEn (a : Den) : DenI := fun en h => (a en h).bind enR
def zpR (r s : R) (h : Hh) : Out Cur := match curOf h r, curOf h s with
  | some c, some d => .ok (.zp c d) h
  | _, _ => .no
def kZp (a b : Den) : DenI := fun en h => (a en h).bind fun r h => (b en h).bind fun s h => zpR r s h

section
variable (cl : Cl) (cs : List D)
mutual
def dE : E → Den
  | .v i => kV i
  | .c d => kC d
  | .g k => kG cs k
  | .tup es => kTup (dEs es)
  | .lst es => kLst (dEs es)
  | .bin op a b => kBin op (dE a) (dE b)
  | .neg a => kNeg (dE a)
  | .not a => kNot (dE a)
  | .cmp op a b => kCmp op (dE a) (dE b)
  | .chain o1 o2 a b c => kChain o1 o2 (dE a) (dE b) (dE c)
  | .and a b => kAnd (dE a) (dE b)
  | .or a b => kOr (dE a) (dE b)
  | .ite t a b => kIte (dE t) (dE a) (dE b)
  | .ix a b => kIx (dE a) (dE b)
  | .sl b1 b2 a lo hi => kSl b1 b2 (dE a) (dE lo) (dE hi)
  | .none => kC .non
  | .rev a => kRev (dE a)
  | .call f ps kws pm => kCall cl f (dEs ps) (dEs kws) pm
  | .bi b es => kBi b (dEs es)
  | .meth m o es => kMeth m (dE o) (dEs es)
  | .lc elt tg it ifs own => kLc (dE elt) (dT tg) (dI it) (dIf ifs) own
  | .al e => kAl (dE e)
def dEs : Es → DenL
  | .nil => kNil
  | .cons e es => kCons (dE e) (dEs es)
def dIf : Es → En → Hh → Out Bool
  | .nil => kYes
  | .cons e es => kIf (dE e) (dIf es)
def dT : T → DenT
  | .nm i => kNm i
  | .tp ts => kTp (dTs ts)
  | .sb a i => kSb (dE a) (dE i)
def dTs : Ts → DenTs
  | .nil => kTnil
  | .cons t ts => kTcons (dT t) (dTs ts)
def dI : I → DenI
  | .e a => kIe (dE a)
  | .rg1 a => kRg1 (dE a)
  | .rg2 a b => kRg2 (dE a) (dE b)
  | .en a => kEn (dE a)
  | .zp a b => kZp (dE a) (dE b)
end

abbrev DenS := En → Hh → Out Fl
def kAsg (t : DenT) (e : Den) : DenS := fun en h => (e en h).bind fun r h => (t en r h).bind fun en h => .ok (.nx en) h
def kExp (e : Den) : DenS := fun en h => (e en h).bind fun _ h => .ok (.nx en) h
def kRet (e : Den) : DenS := fun en h => (e en h).bind fun r h => .ok (.rt r) h
def kIteS (t : Den) (a b : DenS) : DenS := fun en h => (t en h).bind fun r h => match truth h r with
  | some true => a en h
  | some false => b en h
  | none => .no
def kFor (t : DenT) (it : DenI) (body : DenS) : DenS := fun en h => (it en h).bind fun c h => forLoop (fun d en h => (t en (.d d) h).bind fun en h => body en h) FUEL c en h
def kTest (t : Den) : En → Hh → Out Bool := fun en h => (t en h).bind fun r h => ofO (truth h r) h
def kWhile (t : Den) (body : DenS) : DenS := fun en h => whileLoop (kTest t) body FUEL en h
def kPass : DenS := fun en h => .ok (.nx en) h
def kRaise : DenS := fun _ _ => .no
def kSeq (a b : DenS) : DenS := fun en h => match a en h with
  | .ok (.nx en) h => b en h
  | .ok (.rt r) h => .ok (.rt r) h
  | .er e h => .er e h
  | .no => .no
mutual
def dS : S → DenS
  | .asg t e => kAsg (dT cl cs t) (dE cl cs e)
  | .exp e => kExp (dE cl cs e)
  | .ret e => kRet (dE cl cs e)
  | .ite t a b => kIteS (dE cl cs t) (dSs a) (dSs b)
  | .for t it body => kFor (dT cl cs t) (dI cl cs it) (dSs body)
  | .while t body => kWhile (dE cl cs t) (dSs body)
  | .pass => kPass
  | .raise => kRaise
def dSs : Ss → DenS
  | .nil => kPass
  | .cons s ss => kSeq (dS s) (dSs ss)
end
end

/-! ## functions -/
structure FD where
  name : Str
  ps : List Str
  N : List Str
  body : Ss
  fz : Bool

/-- lists made since the entry, for good -/
def frz (h : Hh) (n : Nat) : Nat → D → Option D
  | 0, _ => none
  | k + 1, d => match d with
    | .tup ds => match allO (ds.map (frz h n k)) with
      | some l => some (.tup l)
      | none => none
    | .lst ds => match allO (ds.map (frz h n k)) with
      | some l => some (.lst l)
      | none => none
    | .ref m => if m < n then some (.ref m) else match h[m]? with
      | some (.lst ds) => match allO (ds.map (frz h n k)) with
        | some l => some (.lst l)
        | none => none
      | none => none
    | d => some d
def frzR (h : Hh) (n : Nat) : R → Option R
  | .d x => (frz h n 40 x).map .d
  | .fl ds => (allO (ds.map (frz h n 40))).map .fl
def fin (n : Nat) (fz : Bool) (r : R) (h : Hh) : Out R :=
  match if fz then frzR h n r else some r with
  | some r => if lowR n r then .ok r (h.take n) else if fz then .no else .ok r h
  | none => .no

def runF (cs : List D) (fds : List FD) : Nat → Cl
  | 0, _, _, _ => .no
  | k + 1, f, ds, h => match fds[f]? with
    | none => .no
    | some fd => if ds.length = fd.ps.length ∧ fd.ps.length ≤ fd.N.length then
        match dSs (runF cs fds k) cs fd.body (ds.map some ++ List.replicate (fd.N.length - ds.length) none) h with
        | .ok (.nx _) h' => fin h.length fd.fz (.d .non) h'
        | .ok (.rt r) h' => fin h.length fd.fz r h'
        | .er e h' => .er e h'
        | .no => .no
      else .no
end MP
end

section
set_option Elab.async false
set_option linter.all false
set_option maxRecDepth 100000
set_option maxHeartbeats 4000000
namespace MP
open PySem L2 PyProof.Rows

/-! ## what stands for a value -/
abbrev Kf := PySem.W.Frag
def RT (K : Kf) (F : Hp) (β : List Addr) (a : Addr) (xs : List V) : Prop := (a ∉ β ∧ Rd F a (.tup xs)) ∨ SqT K (fun _ => none) a xs
def RL (K : Kf) (F : Hp) (β : List Addr) (a : Addr) (xs : List V) : Prop := a ∉ β ∧ Rd F a (.lst xs)
mutual
def VR (K : Kf) (F : Hp) (β : List Addr) : D → V → Prop
  | .non, v => v = .non
  | .bl b, v => v = .bl b
  | .int i, v => v = .int i
  | .str s, v => v = .str s
  | .rp p, v => v = .str p.shown
  | .tup ds, v => ∃ a vs, v = .ref a ∧ RT K F β a vs ∧ VRs K F β ds vs
  | .lst ds, v => ∃ a vs, v = .ref a ∧ RL K F β a vs ∧ VRs K F β ds vs
  | .ref n, v => ∃ a, β[n]? = some a ∧ v = .ref a
def VRs (K : Kf) (F : Hp) (β : List Addr) : List D → List V → Prop
  | [], vs => vs = []
  | d :: ds, vs => ∃ v r, vs = v :: r ∧ VR K F β d v ∧ VRs K F β ds r
end

section
variable {K : Kf} {F F' H H' : Hp} {β β' : List Addr}
theorem Rd.same {a : Addr} {u : HO} (s : Same F H) (r : Rd F a u) : Rd H a u := by
  rcases r with r | ⟨o, r⟩
  · exact .inl (s _ _ r)
  · exact .inr ⟨o, s _ _ r⟩
theorem RT.sq {a : Addr} {xs : List V} (s : Same F H) (r : RT K F β a xs) : SqT K H a xs := by
  rcases r with ⟨_, r⟩ | r
  · exact .inl (Rd.same s r)
  · rcases r with r | r
    · rcases r with r | ⟨o, r⟩ <;> cases r
    · exact .inr r
theorem RL.sq {a : Addr} {xs : List V} (s : Same F H) (r : RL K F β a xs) : SqL K H a xs := .inl (Rd.same s r.2)

/-- an extension: lists of the heap keep their places, all that is read is kept -/
structure Ext (F : Hp) (β : List Addr) (F' : Hp) (β' : List Addr) : Prop where
  pre : ∀ (n : Nat) a, β[n]? = some a → β'[n]? = some a
  fr : ∀ a o, F a = some o → a ∉ β → F' a = some o ∧ a ∉ β'
theorem Ext.rd {a : Addr} {u : HO} (e : Ext F β F' β') (n : a ∉ β) (r : Rd F a u) : a ∉ β' ∧ Rd F' a u := by
  rcases r with r | ⟨o, r⟩
  · exact ⟨(e.fr _ _ r n).2, .inl (e.fr _ _ r n).1⟩
  · exact ⟨(e.fr _ _ r n).2, .inr ⟨o, (e.fr _ _ r n).1⟩⟩
theorem RT.ext {a : Addr} {xs : List V} (e : Ext F β F' β') (r : RT K F β a xs) : RT K F' β' a xs := by
  rcases r with ⟨n, r⟩ | r
  · exact .inl (e.rd n r)
  · exact .inr r
theorem RL.ext {a : Addr} {xs : List V} (e : Ext F β F' β') (r : RL K F β a xs) : RL K F' β' a xs := e.rd r.1 r.2
mutual
theorem VR.ext (e : Ext F β F' β') : ∀ (d : D) (v : V), VR K F β d v → VR K F' β' d v
  | .non, _, h => h
  | .bl _, _, h => h
  | .int _, _, h => h
  | .str _, _, h => h
  | .rp _, _, h => h
  | .tup ds, _, ⟨a, vs, e1, r, q⟩ => ⟨a, vs, e1, r.ext e, VRs.ext e ds vs q⟩
  | .lst ds, _, ⟨a, vs, e1, r, q⟩ => ⟨a, vs, e1, r.ext e, VRs.ext e ds vs q⟩
  | .ref n, _, ⟨a, e1, e2⟩ => ⟨a, e.pre n a e1, e2⟩
theorem VRs.ext (e : Ext F β F' β') : ∀ (ds : List D) (vs : List V), VRs K F β ds vs → VRs K F' β' ds vs
  | [], _, h => h
  | d :: ds, _, ⟨v, r, e1, h1, h2⟩ => ⟨v, r, e1, VR.ext e d v h1, VRs.ext e ds r h2⟩
end
theorem Ext.refl : Ext F β F β := ⟨fun _ _ h => h, fun _ _ h n => ⟨h, n⟩⟩
theorem Ext.trans {F2 : Hp} {β2 : List Addr} (a : Ext F β F' β') (b : Ext F' β' F2 β2) : Ext F β F2 β2 :=
  ⟨fun n x h => b.pre n x (a.pre n x h), fun x o h n => let ⟨h1, n1⟩ := a.fr x o h n; b.fr x o h1 n1⟩

/-! ### lists of values -/
theorem VRs.len : ∀ {ds : List D} {vs : List V}, VRs K F β ds vs → vs.length = ds.length
  | [], _, h => by cases h; rfl
  | d :: ds, _, ⟨v, r, e1, _, h2⟩ => by rw [e1, List.length_cons, List.length_cons, VRs.len h2]
theorem VRs.get : ∀ {ds : List D} {vs : List V} {i : Nat} {d : D}, VRs K F β ds vs → ds[i]? = some d → ∃ v, vs[i]? = some v ∧ VR K F β d v
  | [], _, _, _, _, h => by simp at h
  | d :: ds, _, 0, x, ⟨v, r, e1, h1, _⟩, h => by
    have h : d = x := by simpa using h
    subst h e1
    exact ⟨v, rfl, h1⟩
  | d :: ds, _, i + 1, x, ⟨v, r, e1, _, h2⟩, h => by
    subst e1
    exact VRs.get (i := i) h2 (by simpa using h)
theorem VRs.none_of {ds : List D} {vs : List V} {i : Nat} (h : VRs K F β ds vs) (e : ds[i]? = none) : vs[i]? = none := by
  rw [List.getElem?_eq_none_iff] at e ⊢
  rw [h.len]; exact e
theorem VRs.app : ∀ {ds es : List D} {vs ws : List V}, VRs K F β ds vs → VRs K F β es ws → VRs K F β (ds ++ es) (vs ++ ws)
  | [], _, _, _, h, q => by cases h; exact q
  | d :: ds, _, _, _, ⟨v, r, e1, h1, h2⟩, q => by subst e1; exact ⟨v, _, rfl, h1, VRs.app h2 q⟩
theorem VRs.one {d : D} {v : V} (h : VR K F β d v) : VRs K F β [d] [v] := ⟨v, [], rfl, h, rfl⟩
theorem VRs.drop : ∀ {ds : List D} {vs : List V} (n : Nat), VRs K F β ds vs → VRs K F β (ds.drop n) (vs.drop n)
  | _, _, 0, h => h
  | [], _, n + 1, h => by cases h; exact rfl
  | d :: ds, _, n + 1, ⟨v, r, e1, _, h2⟩ => by subst e1; exact VRs.drop n h2
theorem VRs.take : ∀ {ds : List D} {vs : List V} (n : Nat), VRs K F β ds vs → VRs K F β (ds.take n) (vs.take n)
  | _, _, 0, _ => rfl
  | [], _, n + 1, h => by cases h; exact rfl
  | d :: ds, _, n + 1, ⟨v, r, e1, h1, h2⟩ => by subst e1; exact ⟨v, _, rfl, h1, VRs.take n h2⟩
theorem VRs.rev : ∀ {ds : List D} {vs : List V}, VRs K F β ds vs → VRs K F β ds.reverse vs.reverse
  | [], _, h => by cases h; exact rfl
  | d :: ds, _, ⟨v, r, e1, h1, h2⟩ => by
    subst e1
    rw [List.reverse_cons, List.reverse_cons]
    exact VRs.app (VRs.rev h2) (VRs.one h1)
theorem VRs.set {d : D} {v : V} (q : VR K F β d v) : ∀ {ds : List D} {vs : List V} (i : Nat), VRs K F β ds vs → VRs K F β (ds.set i d) (vs.set i v)
  | [], _, _, h => by cases h; exact rfl
  | x :: ds, _, 0, ⟨w, r, e1, _, h2⟩ => by subst e1; exact ⟨v, r, rfl, q, h2⟩
  | x :: ds, _, i + 1, ⟨w, r, e1, h1, h2⟩ => by subst e1; exact ⟨w, _, rfl, h1, VRs.set q i h2⟩
theorem VRs.erase : ∀ {ds : List D} {vs : List V} (i : Nat), VRs K F β ds vs → VRs K F β (ds.eraseIdx i) (vs.eraseIdx i)
  | [], _, _, h => by cases h; exact rfl
  | x :: ds, _, 0, ⟨w, r, e1, _, h2⟩ => by subst e1; exact h2
  | x :: ds, _, i + 1, ⟨w, r, e1, h1, h2⟩ => by subst e1; exact ⟨w, _, rfl, h1, VRs.erase i h2⟩
theorem VRs.dropLast {ds : List D} {vs : List V} (h : VRs K F β ds vs) : VRs K F β ds.dropLast vs.dropLast := by
  rw [List.dropLast_eq_take, List.dropLast_eq_take, h.len]; exact h.take _
theorem VRs.rep {ds : List D} {vs : List V} (h : VRs K F β ds vs) : ∀ n : Nat, VRs K F β (List.replicate n ds).flatten (List.replicate n vs).flatten
  | 0 => rfl
  | n + 1 => by rw [List.replicate_succ, List.replicate_succ, List.flatten_cons, List.flatten_cons]; exact h.app (VRs.rep h n)
theorem VRs.intsD : ∀ {ds : List D} {vs : List V} {ns : List Int}, VRs K F β ds vs → intsD ds = some ns → vs = ns.map V.int
  | [], _, ns, h, e => by cases h; cases e; rfl
  | d :: ds, _, ns, ⟨v, r, e1, h1, h2⟩, e => by
    subst e1
    cases d with
    | int i =>
      unfold MP.intsD at e
      split at e
      · rename_i l hl
        cases e
        rw [VRs.intsD h2 hl, List.map_cons, show v = V.int i from h1]
      · cases e
    | _ => exact nomatch e
theorem VRs.of_ints : ∀ (ns : List Int), VRs K F β (ns.map D.int) (ns.map V.int)
  | [] => rfl
  | n :: ns => ⟨_, _, rfl, rfl, VRs.of_ints ns⟩
theorem VRs.boolsD : ∀ {ds : List D} {vs : List V} {ns : List Bool}, VRs K F β ds vs → boolsD ds = some ns → vs = ns.map V.bl
  | [], _, ns, h, e => by cases h; cases e; rfl
  | d :: ds, _, ns, ⟨v, r, e1, h1, h2⟩, e => by
    subst e1
    cases d with
    | bl i =>
      unfold MP.boolsD at e
      split at e
      · rename_i l hl
        cases e
        rw [VRs.boolsD h2 hl, List.map_cons, show v = V.bl i from h1]
      · cases e
    | _ => exact nomatch e
end

/-! ## worlds -/
def OR (K : Kf) (F : Hp) (β : List Addr) (n : Nat) (a : Addr) : O → Prop
  | .lst ds => ∃ vs, F a = some (.lst vs) ∧ VRs K F β ds vs ∧ lowAll n ds = true
structure Good (K : Kf) (F : Hp) (β : List Addr) (h : Hh) : Prop where
  nd : β.Nodup
  len : β.length = h.length
  ob : ∀ (n : Nat) a o, β[n]? = some a → h[n]? = some o → OR K F β n a o
structure SimE (K : Kf) (F : Hp) (β : List Addr) (en : En) (σ : L2.St) : Prop where
  len : en.length = σ.length
  at_ : ∀ (i : Nat) (d : D), en[i]? = some (some d) → ∃ v, σ[i]? = some (some v) ∧ VR K F β d v
/-- a step of the worlds -/
structure Step (F : Hp) (β : List Addr) (H F' : Hp) (β' : List Addr) (H' : Hp) : Prop where
  gm : ∃ γ, β' = β ++ γ ∧ ∀ a ∈ γ, F a = none ∧ H a = none
  kp : ∀ a o, F a = some o → (∃ o', F' a = some o') ∧ (a ∉ β → F' a = some o)
  hid : ∀ a o, F a = none → H a = some o → F' a = none ∧ H' a = some o
section
variable {K : Kf} {F F' F2 H H' H2 : Hp} {β β' β2 : List Addr} {h : Hh} {en : En} {σ : L2.St}
theorem Step.ext (s : Step F β H F' β' H') : Ext F β F' β' := by
  obtain ⟨γ, e, f⟩ := s.gm
  refine ⟨fun n a q => ?_, fun a o q n => ⟨(s.kp a o q).2 n, fun z => ?_⟩⟩
  · rw [e, List.getElem?_append_left (List.getElem?_eq_some_iff.mp q).1]; exact q
  · rw [e] at z
    rcases List.mem_append.mp z with z | z
    · exact n z
    · rw [(f a z).1] at q; cases q
theorem Step.refl : Step F β H F β H := ⟨⟨[], by simp, fun _ h => by simp at h⟩, fun a o q => ⟨⟨o, q⟩, fun _ => q⟩, fun a o n q => ⟨n, q⟩⟩
theorem Step.trans (sm : Same F H) (s : Step F β H F' β' H') (t : Step F' β' H' F2 β2 H2) : Step F β H F2 β2 H2 := by
  obtain ⟨γ, e, f⟩ := s.gm
  obtain ⟨δ, e2, f2⟩ := t.gm
  refine ⟨⟨γ ++ δ, by rw [e2, e, List.append_assoc], fun a ha => ?_⟩, fun a o q => ?_, fun a o n q => ?_⟩
  · rcases List.mem_append.mp ha with z | z
    · exact f a z
    · obtain ⟨n1, n2⟩ := f2 a z
      have n3 : F a = none := by
        cases q : F a with
        | none => rfl
        | some o => obtain ⟨⟨o', q'⟩, _⟩ := s.kp a o q; rw [n1] at q'; cases q'
      refine ⟨n3, ?_⟩
      cases q : H a with
      | none => rfl
      | some o => have := (s.hid a o n3 q).2; rw [n2] at this; cases this
  · obtain ⟨⟨o', q'⟩, k⟩ := s.kp a o q
    obtain ⟨⟨o2, q2⟩, k2⟩ := t.kp a o' q'
    refine ⟨⟨o2, q2⟩, fun n => ?_⟩
    have q1 := k n
    refine (t.kp a o q1).2 fun z => ?_
    rw [e] at z
    rcases List.mem_append.mp z with z | z
    · exact n z
    · rw [(f a z).1] at q; cases q
  · obtain ⟨n1, q1⟩ := s.hid a o n q
    exact t.hid a o n1 q1
theorem SimE.ext (e : Ext F β F' β') (s : SimE K F β en σ) : SimE K F' β' en σ := ⟨s.len, fun i d q => let ⟨v, q1, r⟩ := s.at_ i d q; ⟨v, q1, VR.ext e d v r⟩⟩
/-- an address that is read is none of the heap's lists -/
theorem Good.mem (g : Good K F β h) {a : Addr} (m : a ∈ β) : ∃ n vs ds, β[n]? = some a ∧ h[n]? = some (.lst ds) ∧ F a = some (.lst vs) ∧ VRs K F β ds vs ∧ lowAll n ds = true := by
  obtain ⟨n, hn, e⟩ := List.getElem_of_mem m
  have q : β[n]? = some a := by rw [List.getElem?_eq_getElem hn, e]
  have hn' : n < h.length := by rw [← g.len]; exact hn
  have r := g.ob n a h[n] q (List.getElem?_eq_getElem hn')
  match hh : h[n], r with
  | .lst ds, ⟨vs, f, v, l⟩ => exact ⟨n, vs, ds, q, by rw [List.getElem?_eq_getElem hn', hh], f, v, l⟩
theorem Good.at_ (g : Good K F β h) {n : Nat} {a : Addr} {ds : List D} (q : β[n]? = some a) (e : h[n]? = some (.lst ds)) : ∃ vs, F a = some (.lst vs) ∧ VRs K F β ds vs ∧ lowAll n ds = true := g.ob n a _ q e
theorem Good.addr (g : Good K F β h) {n : Nat} {o : O} (e : h[n]? = some o) : ∃ a, β[n]? = some a := by
  have : n < β.length := by rw [g.len]; exact (List.getElem?_eq_some_iff.mp e).1
  exact ⟨β[n], List.getElem?_eq_getElem this⟩
/-- more is known, the lists of the heap as they were -/
theorem Good.more (g : Good K F β h) (s : Same F F') : Good K F' β h := ⟨g.nd, g.len, fun n a o q e => by
  have r := g.ob n a o q e
  have x : Ext F β F' β := ⟨fun _ _ z => z, fun a o z m => ⟨s a o z, m⟩⟩
  match o, r with
  | .lst ds, ⟨vs, f, v, l⟩ => exact ⟨vs, s _ _ f, VRs.ext x ds vs v, l⟩⟩
end

/-! ## results -/
def RV (K : Kf) (F : Hp) (β : List Addr) (H : Hp) : R → V → Prop
  | .d d, v => VR K F β d v
  | .fl ds, v => ∃ a vs, v = .ref a ∧ F a = none ∧ H a = some (.lst vs) ∧ VRs K F β ds vs
/-- .. made since H₀ -/
def RR (K : Kf) (F : Hp) (β : List Addr) (H₀ H : Hp) : R → V → Prop
  | .d d, v => VR K F β d v
  | .fl ds, v => ∃ a vs, v = .ref a ∧ H₀ a = none ∧ F a = none ∧ H a = some (.lst vs) ∧ VRs K F β ds vs
section
variable {K : Kf} {F F' F2 H H' H₀ H2 : Hp} {β β' β2 : List Addr} {h : Hh} {en : En} {σ : L2.St} {r : R} {v : V}
theorem RR.rv (h : RR K F β H₀ H r v) : RV K F β H r v := by
  cases r with
  | d x => exact h
  | fl ds => obtain ⟨a, vs, e, _, f, q, w⟩ := h; exact ⟨a, vs, e, f, q, w⟩
theorem RV.step (s : Step F β H F' β' H') (h : RV K F β H r v) : RV K F' β' H' r v := by
  cases r with
  | d x => exact VR.ext s.ext x v h
  | fl ds =>
    obtain ⟨a, vs, e, f, q, w⟩ := h
    obtain ⟨f', q'⟩ := s.hid a _ f q
    exact ⟨a, vs, e, f', q', VRs.ext s.ext ds vs w⟩
theorem RR.step (s : Step F β H F' β' H') (h : RR K F β H₀ H r v) : RR K F' β' H₀ H' r v := by
  cases r with
  | d x => exact VR.ext s.ext x v h
  | fl ds =>
    obtain ⟨a, vs, e, z, f, q, w⟩ := h
    obtain ⟨f', q'⟩ := s.hid a _ f q
    exact ⟨a, vs, e, z, f', q', VRs.ext s.ext ds vs w⟩
/-- made since an earlier heap -/
theorem RR.back {Fz Hz Hy : Hp} {βz βy : List Addr} {Fy : Hp} (sm : Same Fz Hz) (s : Step Fz βz Hz Fy βy Hy) (h : RR K F β Hy H r v) (smy : Same Fy Hy) : RR K F β Hz H r v := by
  cases r with
  | d x => exact h
  | fl ds =>
    obtain ⟨a, vs, e, z, f, q, w⟩ := h
    refine ⟨a, vs, e, ?_, f, q, w⟩
    cases hz : Hz a with
    | none => rfl
    | some o =>
      cases fz : Fz a with
      | none => have := (s.hid a o fz hz).2; rw [z] at this; cases this
      | some o2 => obtain ⟨⟨o3, q3⟩, _⟩ := s.kp a o2 fz; have := smy _ _ q3; rw [z] at this; cases this
end

/-! ## readings -/
def PostE (K : Kf) (F : Hp) (β : List Addr) (H : Hp) (o : Out R) (Q : VK) : Prop := match o with
  | .ok r h' => ∀ v F' β' H', Same F' H' → Step F β H F' β' H' → Good K F' β' h' → RR K F' β' H H' r v → Q v H'
  | _ => False
def tD (K : Kf) (d : Den) : TE := fun σ H Q => ∃ F β h en, Same F H ∧ Good K F β h ∧ SimE K F β en σ ∧ PostE K F β H (d en h) Q
/-- several; the new lists among them stand apart -/
def RRs (K : Kf) (F : Hp) (β : List Addr) (H₀ H : Hp) : List R → List V → Prop
  | [], vs => vs = []
  | r :: rs, vs => ∃ v ws, vs = v :: ws ∧ RR K F β H₀ H r v ∧ RRs K F β H₀ H rs ws
def flA : List R → List V → List Addr
  | .fl _ :: rs, .ref a :: vs => a :: flA rs vs
  | _ :: rs, _ :: vs => flA rs vs
  | _, _ => []
def PostL (K : Kf) (F : Hp) (β : List Addr) (H : Hp) (o : Out (List R)) (Q : List V → Hp → Prop) : Prop := match o with
  | .ok rs h' => ∀ vs F' β' H', Same F' H' → Step F β H F' β' H' → Good K F' β' h' → RRs K F' β' H H' rs vs → (flA rs vs).Nodup → Q vs H'
  | _ => False
def tL (K : Kf) (d : DenL) : TA := fun σ H Q => ∃ F β h en, Same F H ∧ Good K F β h ∧ SimE K F β en σ ∧ PostL K F β H (d en h) Q
def PostB (K : Kf) (F : Hp) (β : List Addr) (H : Hp) (o : Out Bool) (Q : Bool → Hp → Prop) : Prop := match o with
  | .ok b h' => ∀ F' β' H', Same F' H' → Step F β H F' β' H' → Good K F' β' h' → Q b H'
  | _ => False
def tT (K : Kf) (d : Den) : TT := fun σ H Q => ∃ F β h en, Same F H ∧ Good K F β h ∧ SimE K F β en σ ∧ PostB K F β H (kTest d en h) Q
end MP
end

section
set_option Elab.async false
set_option linter.all false
set_option maxRecDepth 100000
set_option maxHeartbeats 4000000
namespace MP
open PySem PySem.Spec L2 PyProof.Rows

/-! ## steps that add objects alone -/
structure PStep (F H F' H' : Hp) : Prop where
  ff : Same F F'
  hh : Same H H'
  sm : Same F' H'
  nw : ∀ a o, F a = none → H a = some o → F' a = none
section
variable {K : Kf} {F F' F1 F2 H H' H₀ H1 H2 : Hp} {β β' β1 β2 : List Addr} {h h1 : Hh} {en : En} {σ : L2.St} {r : R} {v : V}
theorem PStep.refl (sm : Same F H) : PStep F H F H := ⟨Same.refl _, Same.refl _, sm, fun _ _ n _ => n⟩
theorem PStep.step (p : PStep F H F' H') : Step F β H F' β H' :=
  ⟨⟨[], by simp, fun _ z => by simp at z⟩, fun a o q => ⟨⟨o, p.ff a o q⟩, fun _ => p.ff a o q⟩, fun a o n q => ⟨p.nw a o n q, p.hh a o q⟩⟩
theorem sm_new {p : Addr} {o : HO} (n : F p = none) : Same F (upd F p o) := fun a x q => by
  rw [upd_ne (ne_of_none q n)]; exact q
theorem sm_none (sm : Same F H) {p : Addr} (n : H p = none) : F p = none := by
  cases q : F p with
  | none => rfl
  | some o => have := sm p o q; rw [n] at this; cases this
theorem sm_upd (sm : Same F H) {p : Addr} {o : HO} : Same (upd F p o) (upd H p o) := fun a x q => by
  by_cases e : a = p
  · subst e; rw [upd_same] at q ⊢; exact q
  · rw [upd_ne e] at q ⊢; exact sm a x q
/-- a new object, known -/
theorem PStep.known (sm : Same F H) {p : Addr} {o : HO} (n : H p = none) : PStep F H (upd F p o) (upd H p o) :=
  ⟨sm_new (sm_none sm n), sm_new n, sm_upd sm, fun a x f q => by rw [upd_ne (ne_of_none q n)]; exact f⟩
/-- a new object, not known -/
theorem PStep.hidden (sm : Same F H) {p : Addr} {o : HO} (n : H p = none) : PStep F H F (upd H p o) :=
  ⟨Same.refl _, sm_new n, fun a x q => by rw [upd_ne (ne_of_none (sm a x q) n)]; exact sm a x q, fun _ _ f _ => f⟩
theorem PStep.extb (p : PStep F H F' H') : Ext F β F' β := ⟨fun _ _ q => q, fun a o q n => ⟨p.ff a o q, n⟩⟩

theorem PostE.shift {o : Out R} {Q : VK} (sm : Same F H) (s : Step F β H F1 β1 H1) (sm1 : Same F1 H1) (p : PostE K F β H o Q) : PostE K F1 β1 H1 o Q := by
  cases o with
  | ok r h' => exact fun v F' β' H' sm' s' g' rr => p v F' β' H' sm' (Step.trans sm s s') g' (rr.back sm s sm1)
  | er e h => exact p
  | no => exact p
theorem PostB.shift {o : Out Bool} {Q : Bool → Hp → Prop} (sm : Same F H) (s : Step F β H F1 β1 H1) (p : PostB K F β H o Q) : PostB K F1 β1 H1 o Q := by
  cases o with
  | ok r h' => exact fun F' β' H' sm' s' g' => p F' β' H' sm' (Step.trans sm s s') g'
  | er e h => exact p
  | no => exact p
theorem RRs.back {Fz Hz Hy : Hp} {βz βy : List Addr} {Fy : Hp} (sm : Same Fz Hz) (s : Step Fz βz Hz Fy βy Hy) (smy : Same Fy Hy) : ∀ {rs : List R} {vs : List V}, RRs K F β Hy H rs vs → RRs K F β Hz H rs vs
  | [], _, q => q
  | _ :: _, _, ⟨w, ws, e, q1, q2⟩ => ⟨w, ws, e, q1.back sm s smy, RRs.back sm s smy q2⟩
theorem PostL.shift {o : Out (List R)} {Q : List V → Hp → Prop} (sm : Same F H) (s : Step F β H F1 β1 H1) (sm1 : Same F1 H1) (p : PostL K F β H o Q) : PostL K F1 β1 H1 o Q := by
  cases o with
  | ok rs h' => exact fun v F' β' H' sm' s' g' rr nd => p v F' β' H' sm' (Step.trans sm s s') g' (rr.back sm s sm1) nd
  | er e h => exact p
  | no => exact p

/-- first a part, then the rest -/
theorem bind1 {α : Type} {a : Den} {f : R → Hh → Out α} {P : Hp → List Addr → Hp → Out α → Prop} {k : V → Hp → Prop} (sm : Same F H) (gd : Good K F β h) (se : SimE K F β en σ)
    (post : P F β H ((a en h).bind f)) (no : ¬ P F β H .no) (er : ∀ e h, ¬ P F β H (.er e h)) (sh : ∀ F1 β1 H1 o, Step F β H F1 β1 H1 → Same F1 H1 → P F β H o → P F1 β1 H1 o)
    (hk : ∀ r v F1 β1 H1 h1, Same F1 H1 → Step F β H F1 β1 H1 → Good K F1 β1 h1 → SimE K F1 β1 en σ → RR K F1 β1 H H1 r v → P F1 β1 H1 (f r h1) → k v H1) : tD K a σ H k := by
  refine ⟨F, β, h, en, sm, gd, se, ?_⟩
  cases ha : a en h with
  | ok r h1 =>
    rw [ha] at post
    exact fun v F1 β1 H1 sm1 s1 g1 rr => hk r v F1 β1 H1 h1 sm1 s1 g1 (se.ext s1.ext) rr (sh _ _ _ _ s1 sm1 post)
  | er e h1 => rw [ha] at post; exact absurd post (er e h1)
  | no => rw [ha] at post; exact absurd post no
theorem bindE {a : Den} {f : R → Hh → Out R} {Q : VK} {k : V → Hp → Prop} (sm : Same F H) (gd : Good K F β h) (se : SimE K F β en σ) (post : PostE K F β H ((a en h).bind f) Q)
    (hk : ∀ r v F1 β1 H1 h1, Same F1 H1 → Step F β H F1 β1 H1 → Good K F1 β1 h1 → SimE K F1 β1 en σ → RR K F1 β1 H H1 r v → PostE K F1 β1 H1 (f r h1) Q → k v H1) : tD K a σ H k :=
  bind1 (P := fun F β H o => PostE K F β H o Q) sm gd se post (fun z => z) (fun _ _ z => z) (fun _ _ _ _ s sm1 p => p.shift sm s sm1) hk
theorem bindB {a : Den} {f : R → Hh → Out Bool} {Q : Bool → Hp → Prop} {k : V → Hp → Prop} (sm : Same F H) (gd : Good K F β h) (se : SimE K F β en σ) (post : PostB K F β H ((a en h).bind f) Q)
    (hk : ∀ r v F1 β1 H1 h1, Same F1 H1 → Step F β H F1 β1 H1 → Good K F1 β1 h1 → SimE K F1 β1 en σ → RR K F1 β1 H H1 r v → PostB K F1 β1 H1 (f r h1) Q → k v H1) : tD K a σ H k :=
  bind1 (P := fun F β H o => PostB K F β H o Q) sm gd se post (fun z => z) (fun _ _ z => z) (fun _ _ _ _ s _ p => p.shift sm s) hk
theorem bindL1 {a : Den} {f : R → Hh → Out (List R)} {Q : List V → Hp → Prop} {k : V → Hp → Prop} (sm : Same F H) (gd : Good K F β h) (se : SimE K F β en σ) (post : PostL K F β H ((a en h).bind f) Q)
    (hk : ∀ r v F1 β1 H1 h1, Same F1 H1 → Step F β H F1 β1 H1 → Good K F1 β1 h1 → SimE K F1 β1 en σ → RR K F1 β1 H H1 r v → PostL K F1 β1 H1 (f r h1) Q → k v H1) : tD K a σ H k :=
  bind1 (P := fun F β H o => PostL K F β H o Q) sm gd se post (fun z => z) (fun _ _ z => z) (fun _ _ _ _ s sm1 p => p.shift sm s sm1) hk
/-- .. an argument list -/
theorem RRs.step (s : Step F β H F' β' H') : ∀ {rs : List R} {vs : List V}, RRs K F β H₀ H rs vs → RRs K F' β' H₀ H' rs vs
  | [], _, q => q
  | _ :: _, _, ⟨w, ws, e, q1, q2⟩ => ⟨w, ws, e, q1.step s, RRs.step s q2⟩
theorem bindLE {a : DenL} {f : List R → Hh → Out R} {Q : VK} {k : List V → Hp → Prop} (sm : Same F H) (gd : Good K F β h) (se : SimE K F β en σ) (post : PostE K F β H ((a en h).bind f) Q)
    (hk : ∀ rs vs F1 β1 H1 h1, Same F1 H1 → Step F β H F1 β1 H1 → Good K F1 β1 h1 → SimE K F1 β1 en σ → RRs K F1 β1 H H1 rs vs → (flA rs vs).Nodup → PostE K F1 β1 H1 (f rs h1) Q → k vs H1) : tL K a σ H k := by
  refine ⟨F, β, h, en, sm, gd, se, ?_⟩
  cases ha : a en h with
  | ok r h1 =>
    rw [ha] at post
    exact fun v F1 β1 H1 sm1 s1 g1 rr nd => hk r v F1 β1 H1 h1 sm1 s1 g1 (se.ext s1.ext) rr nd (PostE.shift sm s1 sm1 post)
  | er e h1 => rw [ha] at post; exact post
  | no => rw [ha] at post; exact post
end

/-! ## a new list becomes a value -/
section
variable {K : Kf} {F F0 H H₀ : Hp} {β β0 : List Addr} {h : Hh}
theorem flA_none : ∀ {rs : List R} {vs : List V}, RRs K F β H₀ H rs vs → ∀ a ∈ flA rs vs, H₀ a = none ∧ F a = none
  | [], _, q, a, m => by cases q; exact nomatch m
  | .d x :: rs, _, ⟨w, ws, e, _, q2⟩, a, m => by
    subst e
    have m : a ∈ flA rs ws := m
    exact flA_none q2 a m
  | .fl ds :: rs, _, ⟨w, ws, e, q1, q2⟩, a, m => by
    subst e
    obtain ⟨b, vs, rfl, n, f, _⟩ := q1
    rcases List.mem_cons.mp (show a ∈ b :: flA rs ws from m) with z | z
    · subst z; exact ⟨n, f⟩
    · exact flA_none q2 a z
/-- one more list is known -/
theorem know (sm0 : Same F0 H₀) (st : Step F0 β0 H₀ F β H) (sm : Same F H) (gd : Good K F β h) {a : Addr} {vs : List V} (n : H₀ a = none) (f : F a = none) (q : H a = some (.lst vs)) :
    Same F (upd F a (.lst vs)) ∧ Same (upd F a (.lst vs)) H ∧ Step F0 β0 H₀ (upd F a (.lst vs)) β H ∧ a ∉ β ∧ Ext F β (upd F a (.lst vs)) β := by
  have ff := sm_new (F := F) (o := .lst vs) f
  have na : a ∉ β := fun z => by obtain ⟨_, _, _, _, _, f', _⟩ := gd.mem z; rw [f] at f'; cases f'
  refine ⟨ff, fun b o z => ?_, ⟨st.gm, fun b o z => ?_, fun b o z w => ?_⟩, na, ⟨fun _ _ z => z, fun b o z m => ⟨ff b o z, m⟩⟩⟩
  · by_cases hb : b = a
    · subst hb; rw [upd_same] at z; cases z; exact q
    · rw [upd_ne hb] at z; exact sm b o z
  · obtain ⟨⟨o', z'⟩, k⟩ := st.kp b o z
    exact ⟨⟨o', ff b o' z'⟩, fun m => ff b o (k m)⟩
  · obtain ⟨z1, z2⟩ := st.hid b o z w
    refine ⟨?_, z2⟩
    rw [upd_ne (fun e => by rw [e, n] at w; cases w)]
    exact z1
theorem freeze1 (sm0 : Same F0 H₀) (st : Step F0 β0 H₀ F β H) (sm : Same F H) (gd : Good K F β h) {r : R} {v : V} (rr : RR K F β H₀ H r v) :
    ∃ F', Same F F' ∧ Same F' H ∧ Step F0 β0 H₀ F' β H ∧ VR K F' β r.toD v ∧ ∀ a, F a = none → a ∉ flA [r] [v] → F' a = none := by
  cases r with
  | d x => exact ⟨F, Same.refl _, sm, st, rr, fun _ z _ => z⟩
  | fl ds =>
    obtain ⟨a, vs, rfl, n, f, q, w⟩ := rr
    obtain ⟨k1, k2, k3, na, x⟩ := know sm0 st sm gd n f q
    refine ⟨_, k1, k2, k3, ⟨a, vs, rfl, ⟨na, .inl upd_same⟩, VRs.ext x ds vs w⟩, fun b z m => ?_⟩
    rw [upd_ne (fun e => m (by rw [e]; exact List.mem_cons_self))]
    exact z
theorem RRs.know {F' : Hp} (x : Ext F β F' β) : ∀ {rs : List R} {vs : List V}, (∀ a ∈ flA rs vs, F' a = none) → RRs K F β H₀ H rs vs → RRs K F' β H₀ H rs vs
  | [], _, _, q => q
  | .d y :: rs, _, m, ⟨w, ws, e, q1, q2⟩ => by
    subst e
    exact ⟨w, ws, rfl, VR.ext x y w q1, RRs.know x (fun a z => m a z) q2⟩
  | .fl ds :: rs, _, m, ⟨w, ws, e, q1, q2⟩ => by
    subst e
    obtain ⟨b, vs, rfl, n, f, q, w⟩ := q1
    exact ⟨_, ws, rfl, ⟨b, vs, rfl, n, m b (List.mem_cons_self), q, VRs.ext x ds vs w⟩, RRs.know x (fun a z => m a (List.mem_cons_of_mem _ z)) q2⟩
theorem freezeAll (sm0 : Same F0 H₀) : ∀ {rs : List R} {vs : List V} {F : Hp}, Step F0 β0 H₀ F β H → Same F H → Good K F β h → RRs K F β H₀ H rs vs → (flA rs vs).Nodup →
    ∃ F', Same F F' ∧ Same F' H ∧ Step F0 β0 H₀ F' β H ∧ VRs K F' β (rs.map R.toD) vs
  | [], _, F, st, sm, gd, q, _ => by cases q; exact ⟨F, Same.refl _, sm, st, rfl⟩
  | r :: rs, _, F, st, sm, gd, ⟨w, ws, e, q1, q2⟩, nd => by
    subst e
    obtain ⟨F1, k1, k2, k3, k4, k5⟩ := freeze1 sm0 st sm gd q1
    have x : Ext F β F1 β := ⟨fun _ _ z => z, fun a o z m => ⟨k1 a o z, m⟩⟩
    have nd2 : (flA rs ws).Nodup ∧ ∀ a ∈ flA rs ws, a ∉ flA [r] [w] := by
      cases r with
      | d y => exact ⟨nd, fun a _ z => nomatch z⟩
      | fl ds =>
        obtain ⟨b, vs, rfl, _⟩ := q1
        have nd : (b :: flA rs ws).Nodup := nd
        rw [List.nodup_cons] at nd
        refine ⟨nd.2, fun a m z => ?_⟩
        have : a = b := by simpa [flA] using z
        subst this
        exact nd.1 m
    obtain ⟨F2, j1, j2, j3, j4⟩ := freezeAll sm0 (F := F1) k3 k2 (gd.more k1) (q2.know x fun a m => k5 a (flA_none q2 a m).2 (nd2.2 a m)) nd2.1
    exact ⟨F2, k1.trans j1, j2, j3, ⟨w, ws, rfl, VR.ext ⟨fun _ _ z => z, fun a o z m => ⟨j1 a o z, m⟩⟩ _ _ k4, j4⟩⟩
end

/-! ## operators by values -/
def rOp2 (K : Kf) (f : Op2) : R2 := fun x y H Q => ∃ F β h rx ry r, Same F H ∧ Good K F β h ∧ RV K F β H rx x ∧ RV K F β H ry y ∧ f rx ry h = some r ∧
  ∀ v F' H', PStep F H F' H' → RR K F' β H H' r v → Q v H'
def rCmp2 (K : Kf) (f : R → R → Hh → Option Bool) : R2 := fun x y H Q => ∃ F β h rx ry b, Same F H ∧ Good K F β h ∧ RV K F β H rx x ∧ RV K F β H ry y ∧ f rx ry h = some b ∧ Q (.bl b) H
def rOp1 (K : Kf) (f : List R → Hh → Option R) : List V → Hp → VK → Prop := fun vs H Q => ∃ F β h rs H₀ r, Same F H ∧ Good K F β h ∧ RRs K F β H₀ H rs vs ∧ f rs h = some r ∧
  ∀ v F' H', PStep F H F' H' → RR K F' β H H' r v → Q v H'

section
variable {X : Cx} {pins : List (Addr × Obj)} {s : Shared} {σ : L2.St} {F H : Hp} {β : List Addr} {h : Hh} {a : Addr} {xs : List V} {ds : List D} {r : R} {v : V}
/-- a list that is read -/
theorem lst_obj (I : Inv X pins σ H s) (q : Rd H a (.lst xs)) : xs.length ≤ sizeLine ∧ ∃ (its : List Value) (n : Nat), Vals xs its ∧ xs.length = its.length ∧ s.heap.get? a = some { cls := .type "list", data := .seq its.toArray n } := by
  obtain ⟨z, its, n, r, e⟩ := q.ok I.hok
  exact ⟨z, its, n, r, r.length, e⟩
theorem viewL_of {K : Kf} (sm : Same F H) (gd : Good K F β h) (rv : RV K F β H r v) (e : viewL h r = some ds) : ∃ a vs, v = .ref a ∧ Rd H a (.lst vs) ∧ VRs K F β ds vs := by
  cases r with
  | fl l => cases e; obtain ⟨a, vs, e, _, q, w⟩ := rv; exact ⟨a, vs, e, .inl q, w⟩
  | d x =>
    cases x with
    | lst l =>
      cases e
      obtain ⟨a, vs, e, q, w⟩ := rv
      exact ⟨a, vs, e, Rd.same sm q.2, w⟩
    | ref n =>
      obtain ⟨a, q, e2⟩ := rv
      have e : (match h[n]? with
        | some (.lst ds) => some ds
        | none => none) = some ds := e
      split at e
      · rename_i l hl
        cases e
        obtain ⟨vs, f, w, _⟩ := gd.at_ q hl
        exact ⟨a, vs, e2, .inl (sm _ _ f), w⟩
      · cases e
    | _ => exact nomatch e
theorem viewT_of {K : Kf} (sm : Same F H) (rv : RV K F β H r v) (e : viewT r = some ds) : ∃ a vs, v = .ref a ∧ SqT K H a vs ∧ RT K F β a vs ∧ VRs K F β ds vs := by
  cases r with
  | fl l => exact nomatch e
  | d x =>
    cases x with
    | tup l =>
      cases e
      obtain ⟨a, vs, e, q, w⟩ := rv
      exact ⟨a, vs, e, q.sq sm, q, w⟩
    | _ => exact nomatch e
theorem viewS_of {K : Kf} (sm : Same F H) (gd : Good K F β h) (rv : RV K F β H r v) (e : viewS h r = some ds) : ∃ a vs, v = .ref a ∧ (SqL K H a vs ∨ SqT K H a vs) ∧ VRs K F β ds vs := by
  unfold viewS at e
  split at e
  · rename_i l hl
    cases e
    obtain ⟨a, vs, e, q, _, w⟩ := viewT_of (K := K) sm rv hl
    exact ⟨a, vs, e, .inr q, w⟩
  · obtain ⟨a, vs, e, q, w⟩ := viewL_of sm gd rv e
    exact ⟨a, vs, e, .inl (.inl q), w⟩
/-- a new tuple, a new list as an answer -/
theorem new_tup {K : Kf} {vs : List V} {Q : VK} (sm : Same F H) (gd : Good K F β h) (w : VRs K F β ds vs) (q : ∀ v F' H', PStep F H F' H' → RR K F' β H H' (.d (.tup ds)) v → Q v H') : ∀ p, H p = none → Q (.ref p) (upd H p (.tup vs)) := fun p n => by
  have ps := PStep.known (o := .tup vs) sm n
  refine q _ _ _ ps ⟨p, vs, rfl, .inl ⟨fun z => ?_, .inl upd_same⟩, VRs.ext ps.extb _ _ w⟩
  obtain ⟨_, vs', _, _, _, f, _⟩ := gd.mem z
  have := sm _ _ f
  rw [n] at this; cases this
theorem new_lst {K : Kf} {vs : List V} {Q : VK} (sm : Same F H) (w : VRs K F β ds vs) (q : ∀ v F' H', PStep F H F' H' → RR K F' β H H' (.fl ds) v → Q v H') : ∀ p, H p = none → Q (.ref p) (upd H p (.lst vs)) := fun p n =>
  q _ _ _ (PStep.hidden sm n) ⟨p, vs, rfl, n, sm_none sm n, upd_same, w⟩

/-! ### + - * // % ** & -/
theorem or_addL : OpR X (binaryOp .Add) (rOp2 X.K addL) := by
  intro pins s σ H x y v u Q I rx ry ⟨F, β, h, x', y', r, sm, gd, wx, wy, e, q⟩
  unfold addL at e
  split at e
  case h_2 => cases e
  rename_i a b ea eb
  split at e
  case isFalse => cases e
  rename_i hz
  cases e
  obtain ⟨l, xs, rfl, ql, w1⟩ := viewL_of sm gd wx ea
  obtain ⟨m, ys, rfl, qm, w2⟩ := viewL_of sm gd wy eb
  cases rx
  cases ry
  obtain ⟨z, its, n, r1, hl, e1⟩ := lst_obj I ql
  obtain ⟨z2, its2, n2, r2, hl2, e2⟩ := lst_obj I qm
  have hz : a.length + b.length ≤ sizeLine := of_decide_eq_true hz
  rw [← w1.len, ← w2.len] at hz
  refine PySem.P.add_list e1 e2 ?_ (by rw [List.size_toArray, List.size_toArray]; omega)
  have ea : its.toArray ++ its2.toArray = (its ++ its2).toArray := by simp
  rw [ea]
  exact ⟨.ref _, _, I.lnew (t' := s.toks) (r1.append r2) (by rw [List.length_append]; omega), rfl, new_lst sm (w1.app w2) q _ I.fresh⟩
theorem or_add : OpR X (binaryOp .Add) (rOp2 X.K addD) := by
  intro pins s σ H x y v u Q I rx ry ⟨F, β, h, x', y', r, sm, gd, wx, wy, e, q⟩
  unfold addD at e
  split at e
  · cases e
    exact op_add pins s σ H x y v u Q I rx ry ⟨_, _, wx, wy, q _ _ _ (.refl sm) rfl⟩
  · rename_i a b
    split at e
    case isFalse => cases e
    rename_i hz
    cases e
    obtain ⟨l, xs, rfl, ql, r1, w1⟩ := viewT_of (K := X.K) sm wx rfl
    obtain ⟨m, ys, rfl, qm, r2, w2⟩ := viewT_of (K := X.K) sm wy rfl
    have hz : a.length + b.length ≤ sizeLine := of_decide_eq_true hz
    rw [← w1.len, ← w2.len] at hz
    refine op_catA pins s σ H _ _ v u Q I rx ry ⟨l, m, xs, ys, rfl, rfl, ql, qm, hz, fun z => ?_, fun _ z => ?_, fun _ _ => new_tup sm gd (w1.app w2) q⟩
    · subst z
      have : a = [] := by have := w1.len; simp at this; exact List.length_eq_zero_iff.mp this.symm
      subst this
      exact q _ _ _ (.refl sm) ⟨m, ys, rfl, r2, w2⟩
    · subst z
      have : b = [] := by have := w2.len; simp at this; exact List.length_eq_zero_iff.mp this.symm
      subst this
      exact q _ _ _ (.refl sm) ⟨l, xs, rfl, r1, by rw [List.append_nil]; exact w1⟩
  · exact or_addL pins s σ H x y v u Q I rx ry ⟨F, β, h, _, _, r, sm, gd, wx, wy, e, q⟩
theorem or_sub : OpR X (binaryOp .Sub) (rOp2 X.K subD) := by
  intro pins s σ H x y v u Q I rx ry ⟨F, β, h, x', y', r, sm, gd, wx, wy, e, q⟩
  unfold subD at e
  split at e
  · cases e
    exact op_sub pins s σ H x y v u Q I rx ry ⟨_, _, wx, wy, q _ _ _ (.refl sm) rfl⟩
  · cases e
theorem or_fdiv : OpR X (binaryOp .FloorDiv) (rOp2 X.K fdivD) := by
  intro pins s σ H x y v u Q I rx ry ⟨F, β, h, x', y', r, sm, gd, wx, wy, e, q⟩
  unfold fdivD at e
  split at e
  · split at e
    case isFalse => cases e
    rename_i hc
    cases e
    exact op_fdivW pins s σ H x y v u Q I rx ry ⟨_, _, wx, wy, hc, q _ _ _ (.refl sm) rfl⟩
  · cases e
theorem or_mod : OpR X (binaryOp .Mod) (rOp2 X.K modD) := by
  intro pins s σ H x y v u Q I rx ry ⟨F, β, h, x', y', r, sm, gd, wx, wy, e, q⟩
  unfold modD at e
  split at e
  · split at e
    case isFalse => cases e
    rename_i hc
    cases e
    exact op_mod pins s σ H x y v u Q I rx ry ⟨_, _, wx, wy, hc, q _ _ _ (.refl sm) rfl⟩
  · cases e
theorem or_pow : OpR X (binaryOp .Pow) (rOp2 X.K powD) := by
  intro pins s σ H x y v u Q I rx ry ⟨F, β, h, x', y', r, sm, gd, wx, wy, e, q⟩
  unfold powD at e
  split at e
  · split at e
    case isFalse => cases e
    rename_i hc
    cases e
    exact op_pow pins s σ H x y v u Q I rx ry ⟨_, _, wx, wy, hc, q _ _ _ (.refl sm) rfl⟩
  · cases e
theorem or_band : OpR X (binaryOp .BitAnd) (rOp2 X.K bandD) := by
  intro pins s σ H x y v u Q I rx ry ⟨F, β, h, x', y', r, sm, gd, wx, wy, e, q⟩
  unfold bandD at e
  split at e
  · cases e
    exact op_and pins s σ H x y v u Q I rx ry ⟨_, _, wx, wy, q _ _ _ (.refl sm) rfl⟩
  · cases e
end
end MP
end

section
set_option Elab.async false
set_option linter.all false
set_option maxRecDepth 100000
set_option maxHeartbeats 4000000
namespace MP
open PySem PySem.Spec L2 PyProof.Rows
section
variable {X : Cx} {F H : Hp} {β : List Addr} {h : Hh}
theorem rep_flat (us : List Value) (m : Nat) : List.foldl (fun x1 x2 => x1 ++ x2) #[] (List.replicate (if us.toArray.isEmpty = true then 0 else m) us.toArray) = (List.replicate m us).flatten.toArray := by
  have f0 : ∀ m : Nat, List.foldl (fun x1 x2 => x1 ++ x2) #[] (List.replicate m us.toArray) = (List.replicate m us).flatten.toArray := fun m => by
    have z := foldl_rep us m []
    rw [List.nil_append] at z
    exact z
  rw [f0]
  cases us with
  | nil => simp
  | cons a r => rw [if_neg (by simp)]
theorem or_mulL {pins : List (Addr × Obj)} {s : Shared} {σ : L2.St} {l : Addr} {k : Int} {xs : List V} {v u : Value} {Q : VK} (I : Inv X pins σ H s) (hl : Rd H l (.lst xs)) (rx : RelV (.ref l) v) (ry : RelV (.int k) u)
    (h1 : -(2 ^ 63) ≤ k) (h2 : k < 2 ^ 63) (hz : xs.length * k.toNat ≤ sizeLine) (q : ∀ p, H p = none → Q (.ref p) (upd H p (.lst (List.replicate k.toNat xs).flatten))) :
    wpAny (model X.prog X.w) X.A (binaryOp .Mult v u) (EP X pins σ Q) X.xe s := by
  cases rx
  obtain ⟨t, rfl⟩ := ry
  obtain ⟨z, us, n, r, hn, e⟩ := lst_obj I hl
  have hlen : us.toArray.size * k.toNat ≤ sizeLine := by rw [List.size_toArray, ← hn]; exact hz
  have hcap : ¬ us.toArray.size * k.toNat > (2 ^ 63 - 1) / 8 := by
    have w : (sizeLine : Nat) ≤ (2 ^ 63 - 1) / 8 := by decide
    omega
  have hfit : ¬ (!Builtin.List.listFitsIndex k) = true := by rw [fitsIndex_both h1 h2]; decide
  have hlong : ¬ Builtin.List.listTooLong (us.toArray.size * k.toNat) = true := by rw [notLongL hlen]; decide
  have m2 := AutoListH.list___mul___list_int_3 l us.toArray n k t hfit hcap hlong
  rw [rep_flat] at m2
  refine wpAny_binaryOp_repeat_ref (T := "list") (U := "int") (by decide) ⟨_, e, rfl⟩ (fun s' => typeIs_int s' k t) noFill_list_mul F.fills_int_mul F.slot_int_rmul repeat_list F.slot_int_index.lookup
    (call_meets F.slot_int_rmul (typeIs_int s k t) F.entry_int_rmul (F.args_int_rmul_2 _ _) (int___rmul___int_list k t l us.toArray n) ⟨e, rfl, ⟨_, e, rfl⟩, ?_⟩)
  refine call_meets F.slot_list_mul ⟨_, e, rfl⟩ F.entry_list_mul (F.args_list_mul_2 _ _) m2 ⟨e, ?_⟩
  have lz : (List.replicate k.toNat xs).flatten.length ≤ sizeLine := by rw [PyProof.Rows.lm_len_rep_flat, Nat.mul_comm]; exact hz
  exact ⟨.ref _, _, I.lnew (t' := s.toks) (r.rep k.toNat) lz, rfl, q _ I.fresh⟩
theorem mulOk_ok {i j : Int} (h : mulOk i j = true) : IntMulOk i j := by
  unfold mulOk at h
  rw [Bool.or_eq_true, Bool.or_eq_true] at h
  rcases h with h | h | h
  · have h := Nat.blt_eq.mp h
    exact CMul.ok (.inl ⟨by omega, by omega⟩)
  · have h := Nat.blt_eq.mp h
    exact CMul.ok (.inr ⟨by omega, by omega⟩)
  · exact CMulW.ok (Nat.blt_eq.mp h)
theorem op_mulAny : OpR X (binaryOp .Mult) (rI (fun i j => mulOk i j = true) fun i j => .int (i * j)) := opI fun _ _ _ _ _ _ _ hc q => mul_int q (mulOk_ok hc)
theorem or_mul : OpR X (binaryOp .Mult) (rOp2 X.K mulD) := by
  intro pins s σ H x y v u Q I rx ry ⟨F, β, h, x', y', r, sm, gd, wx, wy, e, q⟩
  unfold mulD at e
  split at e
  · split at e
    case isFalse => cases e
    rename_i hc
    cases e
    exact op_mulAny pins s σ H x y v u Q I rx ry ⟨_, _, wx, wy, hc, q _ _ _ (.refl sm) rfl⟩
  · split at e
    case isFalse => cases e
    rename_i a k hc
    cases e
    obtain ⟨l, xs, rfl, ql, r1, w1⟩ := viewT_of (K := X.K) sm wx rfl
    cases (show y = .int k from wy)
    obtain ⟨c1, c2, c3, c4⟩ := hc
    refine op_repT pins s σ H _ _ v u Q I rx ry ⟨l, k, xs, rfl, rfl, ql, fun z => ?_, c3, c4, by rw [w1.len]; exact c2, new_tup sm gd (w1.rep _) q⟩
    have := w1.len
    rw [z] at this
    simp at this
    omega
  · rename_i k _ _
    unfold mulL at e
    split at e
    case h_2 => cases e
    rename_i a ea
    split at e
    case isFalse => cases e
    rename_i hc
    cases e
    obtain ⟨l, xs, rfl, ql, w1⟩ := viewL_of sm gd wx ea
    cases (show y = .int k from wy)
    exact or_mulL I ql rx ry hc.1 hc.2.1 (by rw [w1.len]; exact hc.2.2) (new_lst sm (w1.rep _) q)
  · cases e
theorem or_no {f : Value → Value → Sem Value} : OpR X f (rOp2 X.K noD) := by
  intro pins s σ H x y v u Q I rx ry ⟨F, β, h, x', y', r, sm, gd, wx, wy, e, q⟩
  cases e
theorem or_bin : ∀ op, OpR X (binaryOp op) (rOp2 X.K (binD op))
  | .Add => or_add
  | .Sub => or_sub
  | .Mult => or_mul
  | .FloorDiv => or_fdiv
  | .Mod => or_mod
  | .Pow => or_pow
  | .BitAnd => or_band
  | .MatMult => or_no
  | .Div => or_no
  | .LShift => or_no
  | .RShift => or_no
  | .BitOr => or_no
  | .BitXor => or_no

/-! ### data -/
section
variable {K : Kf} {v : V}
theorem allO_cons {α : Type} {o : Option α} {l : List (Option α)} {ps : List α} (e : allO (o :: l) = some ps) : ∃ p qs, ps = p :: qs ∧ o = some p ∧ allO l = some qs := by
  cases o with
  | none => cases e
  | some a =>
    unfold allO at e
    split at e
    · rename_i qs hq
      cases e
      exact ⟨a, qs, rfl, rfl, hq⟩
    · cases e
theorem dp_of (sm : Same F H) (gd : Good K F β h) : ∀ (k : Nat) (d : D) (v : V) (p : PyData), VR K F β d v → py h k d = some p → Dp K H v p
  | 0, _, _, _, _, e => by cases e
  | k + 1, d, v, p, r, e => by
    have all : ∀ (ds : List D) (vs : List V) (ps : List PyData), VRs K F β ds vs → allO (ds.map (py h k)) = some ps → DpAll K H vs ps := by
      intro ds
      induction ds with
      | nil => intro vs ps w e; cases w; cases e; exact .nil
      | cons d ds ih =>
        intro vs ps ⟨w, ws, e1, r1, r2⟩ e
        obtain ⟨q, qs, rfl, e2, e3⟩ := allO_cons e
        subst e1
        exact .cons (dp_of sm gd k d w q r1 e2) (ih ws qs r2 e3)
    unfold py at e
    cases d with
    | non => cases e; cases r; exact .non
    | bl b => cases e; cases r; exact .bl b
    | int i => cases e; cases r; exact .int i
    | str x => cases e; cases r; exact .str x
    | rp q => cases e; cases r; exact .str _
    | tup ds =>
      obtain ⟨a, vs, rfl, q, w⟩ := r
      simp only at e
      split at e
      · rename_i l hl
        cases e
        exact .tup (q.sq sm) (all ds vs l w hl)
      · cases e
    | lst ds =>
      obtain ⟨a, vs, rfl, q, w⟩ := r
      simp only at e
      split at e
      · rename_i l hl
        cases e
        exact .lst (q.sq sm) (all ds vs l w hl)
      · cases e
    | ref n =>
      obtain ⟨a, q, rfl⟩ := r
      simp only at e
      split at e
      · rename_i ds hd
        obtain ⟨vs, f, w, _⟩ := gd.at_ q hd
        split at e
        · rename_i l hl
          cases e
          exact .lst (.inl (.inl (sm _ _ f))) (all ds vs l w hl)
        · cases e
      · cases e
theorem dp_R (sm : Same F H) (gd : Good K F β h) {r : R} {p : PyData} (rv : RV K F β H r v) (e : py h deep r.toD = some p) : Dp K H v p := by
  cases r with
  | d x => exact dp_of sm gd _ x v p rv e
  | fl ds =>
    obtain ⟨a, vs, rfl, n, q, w⟩ := rv
    -- the list itself as one more that is known
    have sm' : Same (upd F a (.lst vs)) H := fun b o z => by
      by_cases hb : b = a
      · subst hb; rw [upd_same] at z; cases z; exact q
      · rw [upd_ne hb] at z; exact sm b o z
    have f : Same F (upd F a (.lst vs)) := fun b o z => by rw [upd_ne (ne_of_none z n)]; exact z
    have na : a ∉ β := fun z => by obtain ⟨_, _, _, _, _, f, _⟩ := gd.mem z; rw [n] at f; cases f
    have x : Ext F β (upd F a (.lst vs)) β := ⟨fun _ _ z => z, fun b o z m => ⟨f b o z, m⟩⟩
    exact dp_of sm' (gd.more f) _ (.lst ds) _ p ⟨a, vs, rfl, ⟨na, .inl upd_same⟩, VRs.ext x ds vs w⟩ e
end

mutual
theorem same_eq : ∀ (p q : PyData), same p q = true → p = q
  | .none, q, e => by cases q <;> first | rfl | (simp [same] at e)
  | .bool b, q, e => by cases q <;> first | (simp [same] at e; rw [e]; done) | (simp [same] at e; done)
  | .int b, q, e => by cases q <;> first | (simp [same] at e; rw [e]; done) | (simp [same] at e; done)
  | .str b, q, e => by cases q <;> first | (simp [same] at e; rw [e]; done) | (simp [same] at e; done)
  | .list xs, q, e => by
    cases q with
    | list ys => rw [sames_eq xs ys (by simpa only [same] using e)]
    | _ => simp [same] at e
  | .tuple xs, q, e => by
    cases q with
    | tuple ys => rw [sames_eq xs ys (by simpa only [same] using e)]
    | _ => simp [same] at e
  | .dict xs, q, e => by cases q <;> simp [same] at e
theorem sames_eq : ∀ (p q : List PyData), sames p q = true → p = q
  | [], q, e => by cases q <;> first | rfl | (simp [sames] at e)
  | x :: xs, q, e => by
    cases q with
    | nil => simp [sames] at e
    | cons y ys =>
      simp only [sames, Bool.and_eq_true] at e
      rw [same_eq x y e.1, sames_eq xs ys e.2]
end

/-! ### comparisons -/
theorem oc_lt : OpR X (compareOp .Lt) (rCmp2 X.K ltD) := by
  intro pins s σ H x y v u Q I rx ry ⟨F, β, h, x', y', b, sm, gd, wx, wy, e, q⟩
  unfold ltD at e
  split at e
  · cases e; exact op_lt pins s σ H x y v u Q I rx ry ⟨_, _, wx, wy, q⟩
  · cases e
theorem oc_le : OpR X (compareOp .LtE) (rCmp2 X.K leD) := by
  intro pins s σ H x y v u Q I rx ry ⟨F, β, h, x', y', b, sm, gd, wx, wy, e, q⟩
  unfold leD at e
  split at e
  · cases e; exact op_le pins s σ H x y v u Q I rx ry ⟨_, _, wx, wy, q⟩
  · cases e
theorem oc_gt : OpR X (compareOp .Gt) (rCmp2 X.K gtD) := by
  intro pins s σ H x y v u Q I rx ry ⟨F, β, h, x', y', b, sm, gd, wx, wy, e, q⟩
  unfold gtD at e
  split at e
  · cases e; exact op_gt pins s σ H x y v u Q I rx ry ⟨_, _, wx, wy, q⟩
  · cases e
theorem oc_ge : OpR X (compareOp .GtE) (rCmp2 X.K geD) := by
  intro pins s σ H x y v u Q I rx ry ⟨F, β, h, x', y', b, sm, gd, wx, wy, e, q⟩
  unfold geD at e
  split at e
  · cases e; exact op_ge pins s σ H x y v u Q I rx ry ⟨_, _, wx, wy, q⟩
  · cases e
theorem oc_eq (hu : X.A.units + 64 < cLine) : OpR X (compareOp .Eq) (rCmp2 X.K eqD) := by
  intro pins s σ H x y v u Q I rx ry ⟨F, β, h, x', y', b, sm, gd, wx, wy, e, q⟩
  unfold eqD at e
  split at e
  · rename_i i j
    cases e
    cases (show x = .int i from wx)
    cases (show y = .int j from wy)
    refine op_eq pins s σ H _ _ v u Q I rx ry ⟨rfl, ?_⟩
    rw [dec_int, Bool.beq_eq_decide_eq]
    exact q
  · rename_i p p'
    cases e
    cases (show x = .str p.shown from wx)
    cases (show y = .str p'.shown from wy)
    refine op_eq pins s σ H _ _ v u Q I rx ry ⟨rfl, ?_⟩
    rw [dec_str]
    by_cases z : same p p' = true
    · rw [z, same_eq _ _ z] at q
      rw [same_eq _ _ z, beq_self_eq_true]
      simpa using q
    · have z : same p p' = false := by simpa using z
      rw [z, Bool.false_or] at q
      exact q
  · split at e
    · rename_i pa pb ea eb
      split at e
      · rename_i hs
        cases e
        obtain ⟨s1, s2⟩ := Bool.and_eq_true_iff.mp hs
        exact op_eqD hu pins s σ H x y v u Q I rx ry ⟨pa, pb, dp_R sm gd wx ea, dp_R sm gd wy eb, s1, s2, q⟩
      · cases e
    · cases e
theorem oc_ne (hu : X.A.units + 64 < cLine) : OpR X (compareOp .NotEq) (rCmp2 X.K neD) := by
  intro pins s σ H x y v u Q I rx ry ⟨F, β, h, x', y', b, sm, gd, wx, wy, e, q⟩
  unfold neD at e
  split at e
  case h_2 => cases e
  rename_i b' e'
  cases e
  have e := e'
  clear e'
  unfold eqD at e
  split at e
  · rename_i i j
    cases e
    cases (show x = .int i from wx)
    cases (show y = .int j from wy)
    refine op_ne pins s σ H _ _ v u Q I rx ry ⟨rfl, ?_⟩
    rw [dec_int, Bool.beq_eq_decide_eq]
    exact q
  · rename_i p p'
    cases e
    cases (show x = .str p.shown from wx)
    cases (show y = .str p'.shown from wy)
    refine op_ne pins s σ H _ _ v u Q I rx ry ⟨rfl, ?_⟩
    rw [dec_str]
    by_cases z : same p p' = true
    · rw [z, same_eq _ _ z] at q
      rw [same_eq _ _ z, beq_self_eq_true]
      simpa using q
    · have z : same p p' = false := by simpa using z
      rw [z, Bool.false_or] at q
      exact q
  · split at e
    · rename_i pa pb ea eb
      split at e
      · rename_i hs
        cases e
        obtain ⟨s1, s2⟩ := Bool.and_eq_true_iff.mp hs
        exact op_neD hu pins s σ H x y v u Q I rx ry ⟨pa, pb, dp_R sm gd wx ea, dp_R sm gd wy eb, s1, s2, q⟩
      · cases e
    · cases e
theorem dp_L {K : Kf} {v : V} {r : R} {ds : List D} (sm : Same F H) (gd : Good K F β h) (rv : RV K F β H r v) (e : viewL h r = some ds) {p : PyData} (e2 : py h deep r.toD = some p) : ∃ l, p = .list l ∧ Dp K H v (.list l) := by
  have d := dp_R sm gd rv e2
  obtain ⟨a, vs, rfl, q, w⟩ := viewL_of sm gd rv e
  have key : ∀ (o : Option (List PyData)), (match o with | some l => some (PyData.list l) | none => none) = some p → ∃ l, p = .list l := fun o z => by
    cases o with
    | none => cases z
    | some l => cases z; exact ⟨l, rfl⟩
  have : ∃ l, p = .list l := by
    cases r with
    | fl l => exact key _ e2
    | d x =>
      cases x with
      | lst l => exact key _ e2
      | ref n =>
        have e2 : (match h[n]? with
          | some (.lst ds) => match allO (ds.map (py h 39)) with
            | some l => some (PyData.list l)
            | none => none
          | none => none) = some p := e2
        split at e2
        · exact key _ e2
        · cases e2
      | _ => exact nomatch e
  obtain ⟨l, rfl⟩ := this
  exact ⟨l, rfl, d⟩
theorem oc_in (hu : X.A.units + 65 < cLine) : OpR X (compareOp .In) (rCmp2 X.K inD) := by
  intro pins s σ H x y v u Q I rx ry ⟨F, β, h, x', y', b, sm, gd, wx, wy, e, q⟩
  unfold inD at e
  split at e
  · rename_i pa l bs ea el eb
    split at e
    · rename_i hs
      cases e
      obtain ⟨s1, s2⟩ := Bool.and_eq_true_iff.mp hs
      exact op_inD hu pins s σ H x y v u Q I rx ry ⟨pa, bs, dp_R sm gd wx ea, dp_R sm gd wy eb, s1, s2, q⟩
    · cases e
  · cases e
theorem oc_nin (hu : X.A.units + 65 < cLine) : OpR X (compareOp .NotIn) (rCmp2 X.K ninD) := by
  intro pins s σ H x y v u Q I rx ry ⟨F, β, h, x', y', b, sm, gd, wx, wy, e, q⟩
  unfold ninD at e
  split at e
  case h_2 => cases e
  rename_i b' e'
  cases e
  unfold inD at e'
  split at e'
  · rename_i pa l bs ea el eb
    split at e'
    · rename_i hs
      cases e'
      obtain ⟨s1, s2⟩ := Bool.and_eq_true_iff.mp hs
      exact op_notInD hu pins s σ H x y v u Q I rx ry ⟨pa, bs, dp_R sm gd wx ea, dp_R sm gd wy eb, s1, s2, q⟩
    · cases e'
  · cases e'
/-- None or not -/
theorem isD_non {K : Kf} {v : V} {r : R} (rv : RV K F β H r v) (n : r ≠ .d .non) : v ≠ .non := by
  intro z
  subst z
  cases r with
  | fl ds => obtain ⟨_, _, e, _⟩ := rv; cases e
  | d x =>
    cases x with
    | non => exact n rfl
    | bl _ => exact nomatch (show V.non = V.bl _ from rv)
    | int _ => exact nomatch (show V.non = V.int _ from rv)
    | str _ => exact nomatch (show V.non = V.str _ from rv)
    | rp _ => exact nomatch (show V.non = V.str _ from rv)
    | tup _ => obtain ⟨_, _, e, _⟩ := rv; cases e
    | lst _ => obtain ⟨_, _, e, _⟩ := rv; cases e
    | ref _ => obtain ⟨_, _, e⟩ := rv; cases e
theorem oc_is : OpR X (compareOp .Is) (rCmp2 X.K isD) := by
  intro pins s σ H x y v u Q I rx ry ⟨F, β, h, x', y', b, sm, gd, wx, wy, e, q⟩
  unfold isD at e
  split at e
  · cases e; exact op_isBl pins s σ H x y v u Q I rx ry ⟨_, _, wx, wy, q⟩
  · cases e
    refine op_isN pins s σ H x y v u Q I rx ry ⟨wy, ?_⟩
    rw [show x = .non from wx, decide_eq_true rfl]; exact q
  · rename_i n1 n2
    cases e
    refine op_isN pins s σ H x y v u Q I rx ry ⟨wy, ?_⟩
    rw [decide_eq_false (isD_non wx fun z => n2 z)]; exact q
  · cases e
theorem oc_nis : OpR X (compareOp .IsNot) (rCmp2 X.K nisD) := by
  intro pins s σ H x y v u Q I rx ry ⟨F, β, h, x', y', b, sm, gd, wx, wy, e, q⟩
  unfold nisD at e
  split at e
  case h_2 => cases e
  rename_i b' e'
  cases e
  unfold isD at e'
  split at e'
  · cases e'; exact op_notBl pins s σ H x y v u Q I rx ry ⟨_, _, wx, wy, q⟩
  · cases e'
    refine op_notN pins s σ H x y v u Q I rx ry ⟨wy, ?_⟩
    rw [show x = .non from wx, decide_eq_true rfl]; exact q
  · rename_i n1 n2
    cases e'
    refine op_notN pins s σ H x y v u Q I rx ry ⟨wy, ?_⟩
    rw [decide_eq_false (isD_non wx fun z => n2 z)]; exact q
  · cases e'
theorem oc_cmp (hu : X.A.units + 65 < cLine) : ∀ op, OpR X (compareOp op) (rCmp2 X.K (cmpD op))
  | .Lt => oc_lt
  | .LtE => oc_le
  | .Gt => oc_gt
  | .GtE => oc_ge
  | .Eq => oc_eq (by omega)
  | .NotEq => oc_ne (by omega)
  | .In => oc_in hu
  | .NotIn => oc_nin hu
  | .Is => oc_is
  | .IsNot => oc_nis
/-! ### truth -/
theorem tru_of {K : Kf} {v : V} {r : R} {b : Bool} (sm : Same F H) (gd : Good K F β h) (rv : RV K F β H r v) (e : truth h r = some b) : TruV K v H b := by
  have lst : ∀ {ds}, viewL h r = some ds → b = (!ds.isEmpty) → TruV K v H b := fun {ds} e1 e2 => by
    obtain ⟨a, vs, rfl, q, w⟩ := viewL_of sm gd rv e1
    refine .inl ⟨vs, .inl q, ?_⟩
    have l := w.len
    rw [e2]
    cases ds <;> cases vs <;> first | rfl | (simp at l)
  unfold truth at e
  split at e
  · cases e; cases (show v = .non from rv); exact rfl
  · rename_i k; cases e; cases (show v = .bl b from rv); exact rfl
  · rename_i i; cases e; cases (show v = .int i from rv); exact rfl
  · rename_i ds
    cases e
    obtain ⟨a, vs, rfl, q, _, w⟩ := viewT_of (K := K) sm rv rfl
    refine .inr (.inl ⟨vs, q, ?_⟩)
    have l := w.len
    cases ds <;> cases vs <;> first | rfl | (simp at l)
  · split at e
    · rename_i ds hd
      cases e
      exact lst hd rfl
    · cases e
end
end MP
end

section
set_option Elab.async false
set_option linter.all false
set_option maxRecDepth 100000
set_option maxHeartbeats 4000000
namespace MP
open PySem PySem.Spec L2 PyProof.Rows
section
variable {X : Cx} {e : Expr} {es : List Expr} {t t' : TE}
theorem PE_weak (h : PE X e t) (w : ∀ σ H Q, t' σ H Q → t σ H Q) : PE X e t' := ⟨fun pins s σ H Q I q => h.run pins s σ H Q I (w σ H Q q)⟩
theorem PT_weak {t t' : TT} (h : PT X e t) (w : ∀ σ H Q, t' σ H Q → t σ H Q) : PT X e t' := ⟨fun pins s σ H Q I q => h.run pins s σ H Q I (w σ H Q q)⟩
theorem PW_weak {t t' : TT} (h : PW X e t) (w : ∀ σ H Q, t' σ H Q → t σ H Q) : PW X e t' := ⟨fun wh pins s σ H Q I q => h.run wh pins s σ H Q I (w σ H Q q)⟩
theorem PA_weak {t t' : TA} (h : PA X es t) (w : ∀ σ H Q, t' σ H Q → t σ H Q) : PA X es t' := ⟨fun pos pins s σ H Q I q => h.run pos pins s σ H Q I (w σ H Q q)⟩
theorem PO_weak {o : Option Expr} {t t' : TO} (h : PO X o t) (w : ∀ σ H Q, t' σ H Q → t σ H Q) : PO X o t' := ⟨fun pins s σ H Q I q => h.run pins s σ H Q I (w σ H Q q)⟩
theorem PS_weak {st : Stmt} {t t' : TS} (h : PS X st t) (w : ∀ D σ H, t' D σ H → t D σ H) : PS X st t' := ⟨fun pins s σ H D I q => h.run pins s σ H D I (w D σ H q)⟩
theorem PSs_weak {st : List Stmt} {t t' : TS} (h : PSs X st t) (w : ∀ D σ H, t' D σ H → t D σ H) : PSs X st t' := ⟨fun pins s σ H D I q => h.run pins s σ H D I (w D σ H q)⟩
theorem PG_weak {t t' : TG} (h : PG X e t) (w : ∀ v σ H Q, t' v σ H Q → t v σ H Q) : PG X e t' := ⟨fun pins s σ H v u Q I r q => h.run pins s σ H v u Q I r (w v σ H Q q)⟩
theorem PGs_weak {t t' : TGs} (h : PGs X es t) (w : ∀ v σ H Q, t' v σ H Q → t v σ H Q) : PGs X es t' := ⟨fun pins s σ H v u Q I r q => h.run pins s σ H v u Q I r (w v σ H Q q)⟩
theorem PI_weak {tg : Expr} {t t' : TI} (h : PI X tg e t) (w : ∀ σ H Q, t' σ H Q → t σ H Q) : PI X tg e t' := ⟨fun pins s σ H Q I q => h.run pins s σ H Q I (w σ H Q q)⟩
end

section
variable {F0 F H H₀ : Hp} {β0 β : List Addr}
theorem none_back (sm0 : Same F0 H₀) (st : Step F0 β0 H₀ F β H) (sm : Same F H) {p : Addr} (n : H p = none) : H₀ p = none := by
  cases q : H₀ p with
  | none => rfl
  | some o =>
    cases f : F0 p with
    | none => have z := (st.hid p o f q).2; rw [n] at z; cases z
    | some o' => obtain ⟨⟨o2, z⟩, _⟩ := st.kp p o' f; have w := sm p o2 z; rw [n] at w; cases w
/-- a plain step behind another -/
theorem Step.plain {F' H' : Hp} (sm0 : Same F0 H₀) (st : Step F0 β0 H₀ F β H) (p : PStep F H F' H') : Step F0 β0 H₀ F' β H' := Step.trans sm0 st p.step
end

section
variable {X : Cx} {pos : Pos} {x : Str}
/-! ### names, constants, displays -/
theorem pd_V {i : Nat} (hN : X.N[i]? = some x) (hv : Vis X.env.scope x) (hd : (x == ("__debug__" : Str)) = false) (hcd : (x == ("__classdict__" : Str)) = false) : PE X (.Name x pos) (tD X.K (kV i)) := by
  refine PE_weak (pe_var hN hv hd hcd) fun σ H Q ⟨F, β, h, en, sm, gd, se, post⟩ => ?_
  unfold kV at post
  split at post
  · rename_i d hd
    obtain ⟨v, q, r⟩ := se.at_ i d hd
    exact ⟨v, q, post v F β H sm .refl gd r⟩
  · exact post.elim
theorem pd_C {d : D} {v : V} (he : PE X e (tC v)) (hv : ∀ K F β, VR K F β d v) : PE X e (tD X.K (kC d)) :=
  PE_weak he fun σ H Q ⟨F, β, h, en, sm, gd, se, post⟩ => post v F β H sm .refl gd (hv _ _ _)
theorem pd_G {cs : List D} {k : Nat} {d : D} {u : Value} {v : V} (hg : Gl X x) (hm : X.mg x = some u) (r : RelV v u) (hd : (x == ("__debug__" : Str)) = false) (hk : cs[k]? = some d) (hv : VR X.K (fun _ => none) [] d v) : PE X (.Name x pos) (tD X.K (kG cs k)) := by
  refine PE_weak (pe_glob hg hm r hd) fun σ H Q ⟨F, β, h, en, sm, gd, se, post⟩ => ?_
  unfold kG at post
  rw [hk] at post
  exact post v F β H sm .refl gd (VR.ext ⟨fun n a z => by simp at z, fun a o z => by cases z⟩ d v hv)
theorem pa_Nil : PA X [] (tL X.K kNil) :=
  PA_weak pa_nil fun σ H Q ⟨F, β, h, en, sm, gd, se, post⟩ => post [] F β H sm .refl gd rfl (by simp [flA])
theorem pa_Cons {e : Expr} {es : List Expr} {d : Den} {ds : DenL} (he : PE X e (tD X.K d)) (hr : PA X es (tL X.K ds)) (hs : starEach (e :: es) X.env = (false, eval e X.env) :: starEach es X.env) : PA X (e :: es) (tL X.K (kCons d ds)) := by
  refine PA_weak (pa_cons he hr hs) fun σ H Q ⟨F, β, h, en, sm, gd, se, post⟩ => ?_
  refine ⟨F, β, h, en, sm, gd, se, ?_⟩
  have post : PostL X.K F β H ((d en h).bind fun r h => (ds en h).bind fun rs h => .ok (r :: rs) h) Q := post
  cases hd : d en h with
  | er e h => rw [hd] at post; exact post
  | no => rw [hd] at post; exact post
  | ok r h1 =>
    rw [hd] at post
    intro v F1 β1 H1 sm1 st1 gd1 rr1
    refine ⟨F1, β1, h1, en, sm1, gd1, se.ext st1.ext, ?_⟩
    have post : PostL X.K F β H ((ds en h1).bind fun rs h => .ok (r :: rs) h) Q := post
    cases hds : ds en h1 with
    | er e h => rw [hds] at post; exact post
    | no => rw [hds] at post; exact post
    | ok rs h2 =>
      rw [hds] at post
      intro vs F2 β2 H2 sm2 st2 gd2 rr2 nd2
      refine post (v :: vs) F2 β2 H2 sm2 (Step.trans sm st1 st2) gd2 ⟨v, vs, rfl, rr1.step st2, rr2.back sm st1 sm1⟩ ?_
      cases r with
      | d y => exact nd2
      | fl l =>
        obtain ⟨a, ws, rfl, _, _, q, _⟩ := rr1
        show (a :: flA rs vs).Nodup
        rw [List.nodup_cons]
        refine ⟨fun z => ?_, nd2⟩
        have w := (flA_none rr2 a z).1
        rw [q] at w; cases w
theorem pd_Tup {es : List Expr} {ds : DenL} {k : Nat} (hs : PA X es (tL X.K ds)) : PE X (.Tuple es k pos) (tD X.K (kTup ds)) := by
  refine PE_weak (pe_tup hs) fun σ H Q ⟨F, β, h, en, sm, gd, se, post⟩ => ⟨F, β, h, en, sm, gd, se, ?_⟩
  unfold kTup at post
  cases hd : ds en h with
  | er e h => rw [hd] at post; exact post
  | no => rw [hd] at post; exact post
  | ok rs h1 =>
    rw [hd] at post
    simp only at post
    split at post
    case isFalse => exact post.elim
    rename_i hl
    intro vs F1 β1 H1 sm1 st1 gd1 rr1 nd1
    obtain ⟨F2, k1, k2, k3, k4⟩ := freezeAll sm st1 sm1 gd1 rr1 nd1
    have gd2 := gd1.more k1
    refine ⟨?_, fun p n => ?_⟩
    · rw [k4.len, List.length_map]; exact of_decide_eq_true hl
    · have ps := PStep.known (o := .tup vs) k2 n
      refine post _ _ _ _ ps.sm (k3.plain sm ps) (gd2.more ps.ff) ⟨p, vs, rfl, .inl ⟨fun z => ?_, .inl upd_same⟩, VRs.ext ps.extb _ _ k4⟩
      obtain ⟨_, _, _, _, _, f, _⟩ := gd2.mem z
      have w := k2 _ _ f
      rw [n] at w; cases w
theorem pd_Lst {es : List Expr} {ds : DenL} (hs : PA X es (tL X.K ds)) : PE X (.List es pos) (tD X.K (kLst ds)) := by
  refine PE_weak (pe_lst hs) fun σ H Q ⟨F, β, h, en, sm, gd, se, post⟩ => ⟨F, β, h, en, sm, gd, se, ?_⟩
  unfold kLst at post
  cases hd : ds en h with
  | er e h => rw [hd] at post; exact post
  | no => rw [hd] at post; exact post
  | ok rs h1 =>
    rw [hd] at post
    simp only at post
    split at post
    case isFalse => exact post.elim
    rename_i hl
    intro vs F1 β1 H1 sm1 st1 gd1 rr1 nd1
    obtain ⟨F2, k1, k2, k3, k4⟩ := freezeAll sm st1 sm1 gd1 rr1 nd1
    have gd2 := gd1.more k1
    refine ⟨?_, fun p n => ?_⟩
    · rw [k4.len, List.length_map]; exact of_decide_eq_true hl
    · have ps := PStep.hidden (o := .lst vs) k2 n
      exact post _ _ _ _ ps.sm (k3.plain sm ps) (gd2.more ps.ff) ⟨p, vs, rfl, none_back sm k3 k2 n, sm_none k2 n, upd_same, k4⟩

/-! ### operators -/
variable {a b c : Expr} {da db dc : Den}
theorem pd_Bin {op : Operator} (ha : PE X a (tD X.K da)) (hb : PE X b (tD X.K db)) : PE X (.BinOp a op b pos) (tD X.K (kBin op da db)) := by
  refine PE_weak (pe_op (or_bin op) ha hb) fun σ H Q ⟨F, β, h, en, sm, gd, se, post⟩ => ?_
  refine bindE sm gd se post fun r v F1 β1 H1 h1 sm1 st1 gd1 se1 rr1 post1 => ?_
  refine bindE sm1 gd1 se1 post1 fun r2 v2 F2 β2 H2 h2 sm2 st2 gd2 se2 rr2 post2 => ?_
  unfold ofO at post2
  split at post2
  · rename_i r3 e
    exact ⟨F2, β2, h2, r, r2, r3, sm2, gd2, rr1.rv.step st2, rr2.rv, e, fun v F' H' ps rr => post2 v F' β2 H' ps.sm ps.step (gd2.more ps.ff) rr⟩
  · exact post2.elim
theorem pd_Neg (ha : PE X a (tD X.K da)) : PE X (.UnaryOp .USub a pos) (tD X.K (kNeg da)) := by
  refine PE_weak (pe_un un_neg ha) fun σ H Q ⟨F, β, h, en, sm, gd, se, post⟩ => ?_
  refine bindE sm gd se post fun r v F1 β1 H1 h1 sm1 st1 gd1 se1 rr1 post1 => ?_
  unfold negR at post1
  split at post1
  · exact ⟨_, rr1, post1 _ F1 β1 H1 sm1 .refl gd1 rfl⟩
  · exact post1.elim
theorem pd_Not (ha : PE X a (tD X.K da)) : PE X (.UnaryOp .Not a pos) (tD X.K (kNot da)) := by
  refine PE_weak (pe_notT ha) fun σ H Q ⟨F, β, h, en, sm, gd, se, post⟩ => ?_
  refine bindE sm gd se post fun r v F1 β1 H1 h1 sm1 st1 gd1 se1 rr1 post1 => ?_
  split at post1
  · rename_i k e
    exact ⟨k, tru_of sm1 gd1 rr1.rv e, post1 _ F1 β1 H1 sm1 .refl gd1 rfl⟩
  · exact post1.elim
theorem pd_Cmp {op : CmpOp} (hu : X.A.units + 65 < cLine) (ha : PE X a (tD X.K da)) (hb : PE X b (tD X.K db)) (hm : behindInMarks op b = false) : PE X (.Compare a [op] [b] pos) (tD X.K (kCmp op da db)) := by
  refine PE_weak (pe_cmpR (oc_cmp hu op) ha hb hm) fun σ H Q ⟨F, β, h, en, sm, gd, se, post⟩ => ?_
  refine bindE sm gd se post fun r v F1 β1 H1 h1 sm1 st1 gd1 se1 rr1 post1 => ?_
  refine bindE sm1 gd1 se1 post1 fun r2 v2 F2 β2 H2 h2 sm2 st2 gd2 se2 rr2 post2 => ?_
  unfold blR at post2
  split at post2
  · rename_i k e
    exact ⟨F2, β2, h2, r, r2, k, sm2, gd2, rr1.rv.step st2, rr2.rv, e, post2 _ F2 β2 H2 sm2 .refl gd2 rfl⟩
  · exact post2.elim
theorem pd_Chain {o1 o2 : CmpOp} (hu : X.A.units + 65 < cLine) (ha : PE X a (tD X.K da)) (hb : PE X b (tD X.K db)) (hc : PE X c (tD X.K dc)) (hm : lastMarks [o1, o2] [b, c] = false) : PE X (.Compare a [o1, o2] [b, c] pos) (tD X.K (kChain o1 o2 da db dc)) := by
  refine PE_weak (pe_chain (oc_cmp hu o1) (oc_cmp hu o2) ha hb hc hm) fun σ H Q ⟨F, β, h, en, sm, gd, se, post⟩ => ?_
  refine bindE sm gd se post fun r v F1 β1 H1 h1 sm1 st1 gd1 se1 rr1 post1 => ?_
  refine bindE sm1 gd1 se1 post1 fun r2 v2 F2 β2 H2 h2 sm2 st2 gd2 se2 rr2 post2 => ?_
  split at post2
  · rename_i e
    refine ⟨F2, β2, h2, r, r2, true, sm2, gd2, rr1.rv.step st2, rr2.rv, e, true, rfl, ?_⟩
    rw [if_pos rfl]
    refine bindE sm2 gd2 se2 post2 fun r3 v3 F3 β3 H3 h3 sm3 st3 gd3 se3 rr3 post3 => ?_
    unfold blR at post3
    split at post3
    · rename_i k e
      exact ⟨F3, β3, h3, r2, r3, k, sm3, gd3, rr2.rv.step st3, rr3.rv, e, post3 _ F3 β3 H3 sm3 .refl gd3 rfl⟩
    · exact post3.elim
  · rename_i e
    refine ⟨F2, β2, h2, r, r2, false, sm2, gd2, rr1.rv.step st2, rr2.rv, e, false, rfl, ?_⟩
    rw [if_neg (by decide)]
    exact post2 _ F2 β2 H2 sm2 .refl gd2 rfl
  · exact post2.elim
theorem pd_And {rest : List Expr} (ha : PE X a (tD X.K da)) (hb : PE X (.BoolOp .And (b :: rest) pos) (tD X.K db)) : PE X (.BoolOp .And (a :: b :: rest) pos) (tD X.K (kAnd da db)) := by
  refine PE_weak (pe_andT ha hb) fun σ H Q ⟨F, β, h, en, sm, gd, se, post⟩ => ?_
  refine ⟨F, β, h, en, sm, gd, se, ?_⟩
  unfold kAnd at post
  cases hd : da en h with
  | er e h => rw [hd] at post; exact post
  | no => rw [hd] at post; exact post
  | ok r h1 =>
    rw [hd] at post
    intro v F1 β1 H1 sm1 st1 gd1 rr1
    simp only [Out.bind] at post
    split at post
    · rename_i e
      refine ⟨true, tru_of sm1 gd1 rr1.rv e, ?_⟩
      rw [if_pos rfl]
      exact ⟨F1, β1, h1, en, sm1, gd1, se.ext st1.ext, PostE.shift sm st1 sm1 post⟩
    · rename_i e
      refine ⟨false, tru_of sm1 gd1 rr1.rv e, ?_⟩
      rw [if_neg (by decide)]
      exact post v F1 β1 H1 sm1 st1 gd1 rr1
    · exact post.elim
theorem pd_Or {rest : List Expr} (ha : PE X a (tD X.K da)) (hb : PE X (.BoolOp .Or (b :: rest) pos) (tD X.K db)) : PE X (.BoolOp .Or (a :: b :: rest) pos) (tD X.K (kOr da db)) := by
  refine PE_weak (pe_orT ha hb) fun σ H Q ⟨F, β, h, en, sm, gd, se, post⟩ => ?_
  refine ⟨F, β, h, en, sm, gd, se, ?_⟩
  unfold kOr at post
  cases hd : da en h with
  | er e h => rw [hd] at post; exact post
  | no => rw [hd] at post; exact post
  | ok r h1 =>
    rw [hd] at post
    intro v F1 β1 H1 sm1 st1 gd1 rr1
    simp only [Out.bind] at post
    split at post
    · rename_i e
      refine ⟨false, tru_of sm1 gd1 rr1.rv e, ?_⟩
      rw [if_neg (by decide)]
      exact ⟨F1, β1, h1, en, sm1, gd1, se.ext st1.ext, PostE.shift sm st1 sm1 post⟩
    · rename_i e
      refine ⟨true, tru_of sm1 gd1 rr1.rv e, ?_⟩
      rw [if_pos rfl]
      exact post v F1 β1 H1 sm1 st1 gd1 rr1
    · exact post.elim

/-! ### tests -/
theorem pt_any (ha : PE X a (tD X.K da)) (he : ∀ whole, isTrue a X.env whole = (do let v ← whole; standAt a.pos; holding [v] (truthy v))) : PT X a (tT X.K da) := by
  refine PT_weak (pt_truth ha he) fun σ H Q ⟨F, β, h, en, sm, gd, se, post⟩ => ?_
  refine bindB sm gd se post fun r v F1 β1 H1 h1 sm1 st1 gd1 se1 rr1 post1 => ?_
  unfold ofO at post1
  split at post1
  · rename_i k e
    exact ⟨k, tru_of sm1 gd1 rr1.rv e, post1 F1 β1 H1 sm1 .refl gd1⟩
  · exact post1.elim
theorem out_bind_assoc {α β γ : Type} (o : Out α) (f : α → Hh → Out β) (g : β → Hh → Out γ) : (o.bind f).bind g = o.bind fun a h => (f a h).bind g := by cases o <;> rfl
theorem pt_Cmp {op : CmpOp} (hu : X.A.units + 65 < cLine) (ha : PE X a (tD X.K da)) (hb : PE X b (tD X.K db)) (hm : behindInMarks op b = false) : PT X (.Compare a [op] [b] pos) (tT X.K (kCmp op da db)) := by
  refine PT_weak (pt_cmpR (oc_cmp hu op) ha hb hm) fun σ H Q ⟨F, β, h, en, sm, gd, se, post⟩ => ?_
  unfold kTest kCmp at post
  rw [out_bind_assoc] at post
  refine bindB sm gd se post fun r v F1 β1 H1 h1 sm1 st1 gd1 se1 rr1 post1 => ?_
  rw [out_bind_assoc] at post1
  refine bindB sm1 gd1 se1 post1 fun r2 v2 F2 β2 H2 h2 sm2 st2 gd2 se2 rr2 post2 => ?_
  unfold blR at post2
  split at post2
  · rename_i k e
    exact ⟨F2, β2, h2, r, r2, k, sm2, gd2, rr1.rv.step st2, rr2.rv, e, k, rfl, post2 F2 β2 H2 sm2 .refl gd2⟩
  · exact post2.elim
theorem pt_Chain {o1 o2 : CmpOp} (hu : X.A.units + 65 < cLine) (ha : PE X a (tD X.K da)) (hb : PE X b (tD X.K db)) (hc : PE X c (tD X.K dc)) (hm : lastMarks [o1, o2] [b, c] = false) : PT X (.Compare a [o1, o2] [b, c] pos) (tT X.K (kChain o1 o2 da db dc)) := by
  refine PT_weak (pt_chain (oc_cmp hu o1) (oc_cmp hu o2) ha hb hc hm) fun σ H Q ⟨F, β, h, en, sm, gd, se, post⟩ => ?_
  unfold kTest kChain at post
  rw [out_bind_assoc] at post
  refine bindB sm gd se post fun r v F1 β1 H1 h1 sm1 st1 gd1 se1 rr1 post1 => ?_
  rw [out_bind_assoc] at post1
  refine bindB sm1 gd1 se1 post1 fun r2 v2 F2 β2 H2 h2 sm2 st2 gd2 se2 rr2 post2 => ?_
  split at post2
  · rename_i e
    refine ⟨F2, β2, h2, r, r2, true, sm2, gd2, rr1.rv.step st2, rr2.rv, e, true, rfl, ?_⟩
    rw [if_pos rfl]
    rw [out_bind_assoc] at post2
    refine bindB sm2 gd2 se2 post2 fun r3 v3 F3 β3 H3 h3 sm3 st3 gd3 se3 rr3 post3 => ?_
    unfold blR at post3
    split at post3
    · rename_i k e
      exact ⟨F3, β3, h3, r2, r3, k, sm3, gd3, rr2.rv.step st3, rr3.rv, e, k, rfl, post3 F3 β3 H3 sm3 .refl gd3⟩
    · exact post3.elim
  · rename_i e
    refine ⟨F2, β2, h2, r, r2, false, sm2, gd2, rr1.rv.step st2, rr2.rv, e, false, rfl, ?_⟩
    rw [if_neg (by decide)]
    exact ⟨false, rfl, post2 F2 β2 H2 sm2 .refl gd2⟩
  · exact post2.elim
/-- first a test, then the rest -/
theorem bindT {K : Kf} {F H : Hp} {β : List Addr} {h : Hh} {en : En} {σ : L2.St} {α : Type} {f : Bool → Hh → Out α} {P : Hp → List Addr → Hp → Out α → Prop} {k : Bool → Hp → Prop} (sm : Same F H) (gd : Good K F β h) (se : SimE K F β en σ)
    (post : P F β H ((kTest da en h).bind f)) (no : ¬ P F β H .no) (er : ∀ e h, ¬ P F β H (.er e h)) (sh : ∀ F1 β1 H1 o, Step F β H F1 β1 H1 → Same F1 H1 → P F β H o → P F1 β1 H1 o)
    (hk : ∀ b F1 β1 H1 h1, Same F1 H1 → Step F β H F1 β1 H1 → Good K F1 β1 h1 → SimE K F1 β1 en σ → P F1 β1 H1 (f b h1) → k b H1) : tT K da σ H k := by
  refine ⟨F, β, h, en, sm, gd, se, ?_⟩
  cases ha : kTest da en h with
  | ok r h1 =>
    rw [ha] at post
    exact fun F1 β1 H1 sm1 s1 g1 => hk r F1 β1 H1 h1 sm1 s1 g1 (se.ext s1.ext) (sh _ _ _ _ s1 sm1 post)
  | er e h1 => rw [ha] at post; exact absurd post (er e h1)
  | no => rw [ha] at post; exact absurd post no
theorem bindTB {K : Kf} {F H : Hp} {β : List Addr} {h : Hh} {en : En} {σ : L2.St} {f : Bool → Hh → Out Bool} {Q : Bool → Hp → Prop} {k : Bool → Hp → Prop} (sm : Same F H) (gd : Good K F β h) (se : SimE K F β en σ) (post : PostB K F β H ((kTest da en h).bind f) Q)
    (hk : ∀ b F1 β1 H1 h1, Same F1 H1 → Step F β H F1 β1 H1 → Good K F1 β1 h1 → SimE K F1 β1 en σ → PostB K F1 β1 H1 (f b h1) Q → k b H1) : tT K da σ H k :=
  bindT (P := fun F β H o => PostB K F β H o Q) sm gd se post (fun z => z) (fun _ _ z => z) (fun _ _ _ _ s _ p => p.shift sm s) hk
theorem bindTE {K : Kf} {F H : Hp} {β : List Addr} {h : Hh} {en : En} {σ : L2.St} {f : Bool → Hh → Out R} {Q : VK} {k : Bool → Hp → Prop} (sm : Same F H) (gd : Good K F β h) (se : SimE K F β en σ) (post : PostE K F β H ((kTest da en h).bind f) Q)
    (hk : ∀ b F1 β1 H1 h1, Same F1 H1 → Step F β H F1 β1 H1 → Good K F1 β1 h1 → SimE K F1 β1 en σ → PostE K F1 β1 H1 (f b h1) Q → k b H1) : tT K da σ H k :=
  bindT (P := fun F β H o => PostE K F β H o Q) sm gd se post (fun z => z) (fun _ _ z => z) (fun _ _ _ _ s sm1 p => p.shift sm s sm1) hk
theorem test_and (en : En) (h : Hh) : kTest (kAnd da db) en h = (kTest da en h).bind fun b h => match b with | true => kTest db en h | false => .ok false h := by
  unfold kTest kAnd
  rw [out_bind_assoc, out_bind_assoc]
  congr 1
  funext x h1
  cases e : truth h1 x with
  | none => rfl
  | some b => cases b <;> simp [ofO, Out.bind, e]
theorem test_or (en : En) (h : Hh) : kTest (kOr da db) en h = (kTest da en h).bind fun b h => match b with | false => kTest db en h | true => .ok true h := by
  unfold kTest kOr
  rw [out_bind_assoc, out_bind_assoc]
  congr 1
  funext x h1
  cases e : truth h1 x with
  | none => rfl
  | some b => cases b <;> simp [ofO, Out.bind, e]
theorem test_not (en : En) (h : Hh) : kTest (kNot da) en h = (kTest da en h).bind fun b h => .ok (!b) h := by
  unfold kTest kNot
  rw [out_bind_assoc, out_bind_assoc]
  congr 1
  funext x h1
  cases e : truth h1 x with
  | none => rfl
  | some b => cases b <;> simp [ofO, Out.bind, truth]
theorem test_ite (en : En) (h : Hh) : kTest (kIte dc da db) en h = (kTest dc en h).bind fun b h => match b with | true => kTest da en h | false => kTest db en h := by
  unfold kTest kIte
  rw [out_bind_assoc, out_bind_assoc]
  congr 1
  funext x h1
  cases e : truth h1 x with
  | none => rfl
  | some b => cases b <;> rfl
theorem ite_bind (en : En) (h : Hh) : kIte dc da db en h = (kTest dc en h).bind fun b h => match b with | true => da en h | false => db en h := by
  unfold kTest kIte
  rw [out_bind_assoc]
  congr 1
  funext x h1
  cases e : truth h1 x with
  | none => rfl
  | some b => cases b <;> rfl
theorem pw_And {rest : List Expr} (ha : PT X a (tT X.K da)) (hb : PW X (.BoolOp .And (b :: rest) pos) (tT X.K db)) : PW X (.BoolOp .And (a :: b :: rest) pos) (tT X.K (kAnd da db)) := by
  refine PW_weak (pw_and ha hb) fun σ H Q ⟨F, β, h, en, sm, gd, se, post⟩ => ?_
  rw [test_and] at post
  refine bindTB sm gd se post fun k F1 β1 H1 h1 sm1 st1 gd1 se1 post1 => ?_
  cases k with
  | true => rw [if_pos rfl]; exact ⟨F1, β1, h1, en, sm1, gd1, se1, post1⟩
  | false => rw [if_neg (by decide)]; exact post1 F1 β1 H1 sm1 .refl gd1
theorem pw_Or {rest : List Expr} (ha : PT X a (tT X.K da)) (hb : PW X (.BoolOp .Or (b :: rest) pos) (tT X.K db)) : PW X (.BoolOp .Or (a :: b :: rest) pos) (tT X.K (kOr da db)) := by
  refine PW_weak (pw_or ha hb) fun σ H Q ⟨F, β, h, en, sm, gd, se, post⟩ => ?_
  rw [test_or] at post
  refine bindTB sm gd se post fun k F1 β1 H1 h1 sm1 st1 gd1 se1 post1 => ?_
  cases k with
  | false => rw [if_neg (by decide)]; exact ⟨F1, β1, h1, en, sm1, gd1, se1, post1⟩
  | true => rw [if_pos rfl]; exact post1 F1 β1 H1 sm1 .refl gd1
theorem pt_Not (ha : PT X a (tT X.K da)) : PT X (.UnaryOp .Not a pos) (tT X.K (kNot da)) := by
  refine PT_weak (pt_not ha) fun σ H Q ⟨F, β, h, en, sm, gd, se, post⟩ => ?_
  rw [test_not] at post
  exact bindTB sm gd se post fun k F1 β1 H1 h1 sm1 st1 gd1 se1 post1 => post1 F1 β1 H1 sm1 .refl gd1
theorem pd_Ite (hc : PT X c (tT X.K dc)) (ha : PE X a (tD X.K da)) (hb : PE X b (tD X.K db)) : PE X (.IfExp c a b pos) (tD X.K (kIte dc da db)) := by
  refine PE_weak (pe_ifExp hc ha hb) fun σ H Q ⟨F, β, h, en, sm, gd, se, post⟩ => ?_
  rw [ite_bind] at post
  refine bindTE sm gd se post fun k F1 β1 H1 h1 sm1 st1 gd1 se1 post1 => ?_
  cases k with
  | true => rw [if_pos rfl]; exact ⟨F1, β1, h1, en, sm1, gd1, se1, post1⟩
  | false => rw [if_neg (by decide)]; exact ⟨F1, β1, h1, en, sm1, gd1, se1, post1⟩
end
end MP
end

section
set_option Elab.async false
set_option linter.all false
set_option maxRecDepth 100000
set_option maxHeartbeats 4000000
namespace MP
open PySem PySem.Spec L2 PyProof.Rows
/-! ### t[::-1] of a tuple -/
section
variable {prog : Program} {w : World} {A : Around} {E : Value → Shared → Prop} {s : Shared}
theorem slApplied_back {sl : Addr} {vl vu vs : Value} {n : Nat} {Q : Int × Int × Nat → Shared → Prop} (hs : s.heap.IsSliceOf sl vl vu vs) (pl : IsPart vl none) (pu : IsPart vu none) (ps : IsPart vs (some (-1)))
    (h : Q ((n : Int) - 1, -1, n) s) : wpAny (model prog w) A (Builtin.Slice.sliceApplied (.ref sl) (pure (n : Int))) Q E s := by
  obtain ⟨os, ho, hc, hd⟩ := id hs
  unfold Builtin.Slice.sliceApplied Builtin.Slice.sliceFields
  have last : wpAny (model prog w) A (pure (vl, vu, vs) : Sem (Value × Value × Value)) (fun p s => wpAny (model prog w) A (do
      let step := (← Builtin.Slice.slicePartIndex p.2.2).getD 1
      if step == 0 then rule "slice.step-zero"; raiseError "ValueError" "slice step cannot be zero"
      let start ← Builtin.Slice.slicePartIndex p.1
      let stop ← Builtin.Slice.slicePartIndex p.2.1
      let (lo, hi) := Builtin.Slice.sliceAdjust start stop step (← (pure (n : Int) : Sem Int))
      return (lo, step, Builtin.Slice.slicePlaces lo hi step)) Q E s) E s := by
    refine wpAny_pure (wpAny_bind (HT.slicePart_ ps ?_))
    show wpAny _ _ (if ((-1 : Int) == 0) = true then _ else _) _ _ s
    rw [if_neg (by decide)]
    refine wpAny_bind (HT.slicePart_ pl (wpAny_bind (HT.slicePart_ pu (wpAny_bind (wpAny_pure ?_)))))
    have e : Builtin.Slice.slicePlaces ((n : Int) - 1) (-1) (-1) = n := by
      unfold Builtin.Slice.slicePlaces
      rw [if_neg (by decide)]
      by_cases z : n = 0
      · subst z; decide
      · rw [if_pos (by omega)]
        have w : ((n : Int) - 1 - (-1) - 1) / (- -1) + 1 = n := by
          rw [show (- -1 : Int) = 1 by decide, Int.ediv_one]; omega
        rw [w]; omega
    show wpAny _ _ (pure ((n : Int) - 1, (-1 : Int), Builtin.Slice.slicePlaces ((n : Int) - 1) (-1) (-1))) _ _ s
    rw [e]
    exact wpAny_pure h
  exact wpAny_bind (wpAny_bind (wpAny_field ho hd (x := vl) rfl (wpAny_bind (wpAny_field ho hd (x := vu) rfl (wpAny_bind (wpAny_field ho hd (x := vs) rfl last))))))
theorem fm_of {α β : Type} {f : α → Option β} {g : α → β} : ∀ {l : List α}, (∀ m, m ∈ l → f m = some (g m)) → l.filterMap f = l.map g
  | [], _ => rfl
  | x :: l, k => by rw [List.filterMap_cons, k x List.mem_cons_self, List.map_cons, fm_of fun m h => k m (List.mem_cons_of_mem _ h)]
theorem pick_back (xs : List Value) : ((List.range xs.length).filterMap fun (m : Nat) => xs.toArray[((xs.length : Int) - 1 + (m : Int) * (-1)).toNat]?).toArray = xs.reverse.toArray := by
  congr 1
  have key : ∀ m, m ∈ List.range xs.length → (xs.toArray[((xs.length : Int) - 1 + (m : Int) * (-1)).toNat]?) = some ((xs.reverse)[m]?.getD .none) := fun m hm => by
    have hm := List.mem_range.mp hm
    have e : ((xs.length : Int) - 1 + (m : Int) * (-1)).toNat = xs.length - 1 - m := by omega
    rw [e, List.getElem?_toArray, List.getElem?_reverse hm, List.getElem?_eq_getElem (by omega)]
    rfl
  rw [fm_of key]
  apply List.ext_getElem
  · simp
  · intro i h1 h2
    have h3 : i < xs.length := by simpa using h1
    simp only [List.getElem_map, List.getElem_range]
    rw [List.getElem?_eq_getElem (by simpa using h3)]
    rfl
theorem item_tuple_back {t sl : Addr} {items : List Value} {vl vu vs : Value} {Q : Value → Shared → Prop} (ht : IsTup s.heap t items.toArray) (hs : s.heap.IsSliceOf sl vl vu vs) (pl : IsPart vl none) (pu : IsPart vu none) (ps : IsPart vs (some (-1)))
    (h : Q (.ref s.heap.objs.size) { s with heap := s.heap.push { cls := .type "tuple", data := .seq items.reverse.toArray } }) (hsz : items.length ≤ sizeLine) : wpAny (model prog w) A (getItem (.ref t) (.ref sl)) Q E s := by
  have hz : sizeOk (.seq items.reverse.toArray) := by
    show items.reverse.toArray.size ≤ sizeLine
    rw [List.size_toArray, List.length_reverse]; exact hsz
  obtain ⟨os, hos, hcs, hds⟩ := id hs
  have hT : s.TypeIs (.ref sl) "slice" := ⟨os, hos, hcs⟩
  unfold getItem
  try with_reducible refine wpAny_holding ?_
  first | refine wpAny_bind (wpAny_pure ?_) | skip
  refine wpAny_bind (wpAny_sequenceKey ht.typeIs (by decide) ?_)
  refine wpAny_bind (wpAny_callSpecial?_slot (name := Str.ofString "__getitem__") ht.typeIs PyProof.Rows.slot_tuple_getitem
    (wpAny_call_entry PyProof.Rows.slot_tuple_getitem ht.typeIs entry_tuple_getitem ?_ (args_tuple_getitem _ _)))
  show wpAny _ _ (Builtin.Tuple.tupleItemsOf (.ref t) >>= _) _ _ s
  refine wpAny_bind (tupleItemsOf_ ht ?_)
  refine wpAny_bind (wpAny_typeOf hT ?_)
  rw [if_pos (by decide)]
  rw [List.size_toArray]
  refine wpAny_bind (slApplied_back hs pl pu ps ?_)
  have hno : ¬ (((items.length : Int) - 1 == 0 && (-1 : Int) == 1 && items.length == items.length) = true) := by
    intro q
    rw [Bool.and_eq_true, Bool.and_eq_true] at q
    exact absurd q.1.2 (by decide)
  show wpAny _ _ (if ((items.length : Int) - 1 == 0 && (-1 : Int) == 1 && items.length == items.length) = true then _ else _) _ _ s
  rw [if_neg hno, pick_back]
  exact wpAny_bind (m := Builtin.Tuple.tupleExact _) (wpAny_newObj_type (wpAny_pure ⟨_, rfl, wpAny_pure h⟩) hz)
end

section
variable {X : Cx} {pos p1 p2 p3 : Pos} {a b c lo hi : Expr} {da db dl dh : Den}
theorem pd_Ix (ha : PE X a (tD X.K da)) (hb : PE X b (tD X.K db)) (hs : PlainIx b) : PE X (.Subscript a b pos) (tD X.K (kIx da db)) := by
  refine PE_weak (pe_ix (IxR.or ix_list ix_tup) ha hb hs) fun σ H Q ⟨F, β, h, en, sm, gd, se, post⟩ => ?_
  refine bindE sm gd se post fun r v F1 β1 H1 h1 sm1 st1 gd1 se1 rr1 post1 => ?_
  refine bindE sm1 gd1 se1 post1 fun r2 v2 F2 β2 H2 h2 sm2 st2 gd2 se2 rr2 post2 => ?_
  unfold dOut at post2
  split at post2
  case h_2 => exact post2.elim
  rename_i d e
  unfold ixD at e
  split at e
  case h_2 => cases e
  rename_i i
  split at e
  case h_2 => cases e
  rename_i ds hd
  cases (show v2 = .int i from rr2)
  obtain ⟨p, vs, rfl, q, w⟩ := viewS_of sm2 gd2 (rr1.rv.step st2) hd
  obtain ⟨j, e1, e2⟩ := Option.bind_eq_some_iff.mp (show (ixN ds.length i).bind (fun j => ds[j]?) = some d from e)
  obtain ⟨z, hz, rz⟩ := w.get e2
  have at_ : atI vs i = some z := by unfold atI; rw [w.len, e1]; exact hz
  have fin := post2 z F2 β2 H2 sm2 .refl gd2 rz
  rcases q with q | q
  · exact .inl ⟨p, vs, i, z, rfl, rfl, q, at_, fin⟩
  · exact .inr ⟨p, vs, i, z, rfl, rfl, q, at_, fin⟩
def PostO (K : Kf) (F : Hp) (β : List Addr) (H : Hp) (o : Out (Option Int)) (Q : Option Int → Hp → Prop) : Prop := match o with
  | .ok b h' => ∀ F' β' H', Same F' H' → Step F β H F' β' H' → Good K F' β' h' → Q b H'
  | _ => False
def tP (K : Kf) (d : En → Hh → Out (Option Int)) : TO := fun σ H Q => ∃ F β h en, Same F H ∧ Good K F β h ∧ SimE K F β en σ ∧ PostO K F β H (d en h) Q
theorem po_No {d : Den} : PO X none (tP X.K (kPart false d)) := PO_weak po_none fun σ H Q ⟨F, β, h, en, sm, gd, se, post⟩ => post F β H sm .refl gd
theorem po_Some {e : Expr} {d : Den} (he : PE X e (tD X.K d)) : PO X (some e) (tP X.K (kPart true d)) := by
  refine PO_weak (po_some he) fun σ H Q ⟨F, β, h, en, sm, gd, se, post⟩ => ⟨F, β, h, en, sm, gd, se, ?_⟩
  unfold kPart at post
  simp only at post
  cases hd : d en h with
  | er e h => rw [hd] at post; exact post
  | no => rw [hd] at post; exact post
  | ok r h1 =>
    rw [hd] at post
    intro v F1 β1 H1 sm1 st1 gd1 rr1
    simp only [Out.bind] at post
    split at post
    · exact ⟨_, rr1, post F1 β1 H1 sm1 st1 gd1⟩
    · exact post.elim
theorem PostO.bindE {K : Kf} {F H : Hp} {β : List Addr} {h : Hh} {en : En} {σ : L2.St} {d : En → Hh → Out (Option Int)} {f : Option Int → Hh → Out R} {Q : VK} {k : Option Int → Hp → Prop} (sm : Same F H) (gd : Good K F β h) (se : SimE K F β en σ) (post : PostE K F β H ((d en h).bind f) Q)
    (hk : ∀ b F1 β1 H1 h1, Same F1 H1 → Step F β H F1 β1 H1 → Good K F1 β1 h1 → SimE K F1 β1 en σ → PostE K F1 β1 H1 (f b h1) Q → k b H1) : tP K d σ H k := by
  refine ⟨F, β, h, en, sm, gd, se, ?_⟩
  cases ha : d en h with
  | ok r h1 =>
    rw [ha] at post
    exact fun F1 β1 H1 sm1 s1 g1 => hk r F1 β1 H1 h1 sm1 s1 g1 (se.ext s1.ext) (PostE.shift sm s1 sm1 post)
  | er e h1 => rw [ha] at post; exact post
  | no => rw [ha] at post; exact post
theorem VRs.cut {K : Kf} {F : Hp} {β : List Addr} {ds : List D} {vs : List V} (w : VRs K F β ds vs) (lo hi : Option Int) : VRs K F β (cutD ds lo hi) (cutV vs lo hi) := by
  unfold cutD cutV
  rw [w.len]
  exact (w.drop _).take _
theorem pd_Sl {b1 b2 : Bool} {lo hi : Option Expr} (ha : PE X a (tD X.K da)) (hl : PO X lo (tP X.K (kPart b1 dl))) (hh : PO X hi (tP X.K (kPart b2 dh))) : PE X (.Subscript a (.Slice lo hi none p2) pos) (tD X.K (kSl b1 b2 da dl dh)) := by
  refine PE_weak (pe_slice (SlR.or sl_list sl_tupA) ha hl hh) fun σ H Q ⟨F, β, h, en, sm, gd, se, post⟩ => ?_
  refine bindE sm gd se post fun r v F1 β1 H1 h1 sm1 st1 gd1 se1 rr1 post1 => ?_
  refine PostO.bindE sm1 gd1 se1 post1 fun l F2 β2 H2 h2 sm2 st2 gd2 se2 post2 => ?_
  refine PostO.bindE sm2 gd2 se2 post2 fun u F3 β3 H3 h3 sm3 st3 gd3 se3 post3 => ?_
  have rv := (rr1.rv.step st2).step st3
  unfold ofO at post3
  split at post3
  case h_2 => exact post3.elim
  rename_i r3 e
  have q : ∀ v F' H', PStep F3 H3 F' H' → RR X.K F' β3 H3 H' r3 v → Q v H' := fun v F' H' ps rr => post3 v F' β3 H' ps.sm ps.step (gd3.more ps.ff) rr
  clear post3
  unfold slD at e
  split at e
  · rename_i ds hd
    cases e
    obtain ⟨p, vs, rfl, q1, q2, w⟩ := viewT_of (K := X.K) sm3 rv hd
    refine .inr ⟨p, vs, rfl, q1, fun z => ?_, fun _ => new_tup sm3 gd3 (w.cut l u) q⟩
    refine q _ _ _ (.refl sm3) ⟨p, vs, rfl, q2, ?_⟩
    have : cutD ds l u = ds := by
      unfold cutD
      rw [← w.len, z.1, z.2, List.drop_zero, Nat.sub_zero, w.len, List.take_length]
    rw [this]
    exact w
  · split at e
    · rename_i ds hd
      cases e
      obtain ⟨p, vs, rfl, q1, w⟩ := viewL_of sm3 gd3 rv hd
      exact .inl ⟨p, vs, rfl, .inl q1, new_lst sm3 (w.cut l u) q⟩
    · cases e
theorem pd_Rev {k : Nat} (ha : PE X a (tD X.K da)) : PE X (.Subscript a (.Slice none none (some (.UnaryOp .USub (.Constant (.int 1) k p1) p2)) p3) pos) (tD X.K (kRev da)) := by
  refine ⟨fun pins s σ H Q I ⟨F, β, h, en, sm, gd, se, post⟩ => ?_⟩
  have hb := bindE (K := X.K) (k := fun v H1 => ∃ F1 β1 h1 r, Same F1 H1 ∧ Good X.K F1 β1 h1 ∧ RV X.K F1 β1 H1 r v ∧ PostE X.K F1 β1 H1 (ofO (revD r h1) h1) Q) sm gd se post fun r v F1 β1 H1 h1 sm1 st1 gd1 se1 rr1 post1 => ⟨F1, β1, h1, r, sm1, gd1, rr1.rv, post1⟩
  refine Subscript_ (thn (ha.run pins s σ H _ I hb) fun v s1 ⟨x, H1, I1, r1, F1, β1, h1, r, sm1, gd1, rv, post1⟩ => ?_)
  unfold ofO at post1
  split at post1
  case h_2 => exact post1.elim
  rename_i r3 e
  have q : ∀ v F' H', PStep F1 H1 F' H' → RR X.K F' β1 H1 H' r3 v → Q v H' := fun v F' H' ps rr => post1 v F' β1 H' ps.sm ps.step (gd1.more ps.ff) rr
  clear post1
  have hst : PO X (some (.UnaryOp .USub (.Constant (.int 1) k p1) p2)) (tPart (tUn (rU fun i => .int (-i)) (tC (.int 1)))) := po_some (pe_un un_neg pe_int)
  refine wpAny_Slice (thn (po_none.run pins s1 σ H1 (fun o H2 => o = none ∧ H2 = H1) I1 ⟨rfl, rfl⟩) fun vl s2 ⟨l, H2, I2, pl, el, e2⟩ => ?_)
  subst el e2
  refine thn (po_none.run pins s2 σ H2 (fun o H3 => o = none ∧ H3 = H2) I2 ⟨rfl, rfl⟩) fun vu s3 ⟨u, H3, I3, pu, eu, e3⟩ => ?_
  subst eu e3
  refine thn (hst.run pins s3 σ H3 (fun o H4 => o = some (-1) ∧ H4 = H3) I3 ⟨1, rfl, -1, rfl, rfl, rfl⟩) fun vs s4 ⟨o, H4, I4, ps, eo, e4⟩ => ?_
  subst eo e4
  have I5 : L2.Inv X pins σ H4 { s4 with heap := s4.heap.push { cls := .type "slice", data := .fields #[vl, vu, vs] } } := I4.kept (t' := s4.toks) fun b ob q => Heap.get?_push_of_some _ q
  unfold revD at e
  split at e
  · rename_i ds hd
    cases e
    obtain ⟨p, ws, rfl, q1, q2, w⟩ := viewT_of (K := X.K) sm1 rv hd
    cases r1
    obtain ⟨its, r, ht, hz⟩ := I5.tuple q1
    have hlen := r.length
    refine tail_any (ops := [.ref p, .ref s4.heap.objs.size]) ht.typeIs PyProof.Rows.slot_tuple_getitem.lookup ?_ (by with_unfolding_all rfl)
    refine item_tuple_back ht (Heap.IsSliceOf.new _ vl vu vs) pl pu ps ?_ (by omega)
    refine ⟨.ref _, _, I5.laid (t' := s4.toks) (o := .tup ws.reverse) (fun b ob q => Heap.get?_push_of_some _ q) (Nat.le_refl _) ?_, rfl, new_tup sm1 gd1 w.rev q _ (I5.hok.fresh (Nat.le_refl _))⟩
    exact ⟨by rw [List.length_reverse]; exact hz, _, r.reverse, IsTup.new _ _⟩
  · split at e
    case h_2 => cases e
    rename_i ds hd
    cases e
    obtain ⟨p, ws, rfl, q1, w⟩ := viewL_of sm1 gd1 rv hd
    cases r1
    obtain ⟨its, r, ht, hz⟩ := I5.list (X := X) (a := p) (xs := ws) (.inl q1)
    have hlen := r.length
    refine tail_any (ops := [.ref p, .ref s4.heap.objs.size]) ht.isList.typeIs (PySem.slot_list_getitem.lookup) ?_ (by with_unfolding_all rfl)
    refine wpAny_getItem_list_slice ht.isList (Heap.IsSliceOf.new _ vl vu vs) pl pu ps (by decide) ?_ (by rw [List.size_toArray]; omega)
    rw [PySem.W.krv_pick]
    refine ⟨.ref _, _, I5.laid (t' := s4.toks) (o := .lst ws.reverse) (fun b ob q => Heap.get?_push_of_some _ q) (Nat.le_refl _) ?_, rfl, new_lst sm1 w.rev q _ (I5.hok.fresh (Nat.le_refl _))⟩
    exact ⟨by rw [List.length_reverse]; exact hz, _, 0, r.reverse, Heap.get?_push_size _ rfl⟩
end
end MP
end

section
set_option Elab.async false
set_option linter.all false
set_option maxRecDepth 100000
set_option maxHeartbeats 4000000
namespace MP
open PySem PySem.Spec L2 PyProof.Rows
section
variable {X : Cx} {F H H₀ : Hp} {β : List Addr} {h : Hh}
theorem rv_of1 {K : Kf} {rs : List R} {vs : List V} {x : R} (rr : RRs K F β H₀ H rs vs) (e : rs = [x]) : ∃ v, vs = [v] ∧ RV K F β H x v := by
  subst e
  obtain ⟨v, ws, rfl, q, e⟩ := rr
  cases e
  exact ⟨v, rfl, q.rv⟩
theorem rv_of2 {K : Kf} {rs : List R} {vs : List V} {x y : R} (rr : RRs K F β H₀ H rs vs) (e : rs = [x, y]) : ∃ v w, vs = [v, w] ∧ RV K F β H x v ∧ RV K F β H y w := by
  subst e
  obtain ⟨v, ws, rfl, q, w, ws2, rfl, q2, e⟩ := rr
  cases e
  exact ⟨v, w, rfl, q.rv, q2.rv⟩
theorem seq1_of {K : Kf} {rs : List R} {vs : List V} {ds : List D} (sm : Same F H) (gd : Good K F β h) (rr : RRs K F β H₀ H rs vs) (e : seq1 rs h = some ds) : ∃ a ws, vs = [.ref a] ∧ (SqL K H a ws ∨ SqT K H a ws) ∧ VRs K F β ds ws := by
  unfold seq1 at e
  split at e
  · rename_i x
    obtain ⟨v, rfl, rv⟩ := rv_of1 rr rfl
    obtain ⟨a, ws, rfl, q, w⟩ := viewS_of sm gd rv e
    exact ⟨a, ws, rfl, q, w⟩
  · cases e
theorem ints1_of {K : Kf} {rs : List R} {vs : List V} {ns : List Int} (sm : Same F H) (gd : Good K F β h) (rr : RRs K F β H₀ H rs vs) (e : ints1 rs h = some ns) : ∃ a, vs = [.ref a] ∧ (SqL K H a (ns.map V.int) ∨ SqT K H a (ns.map V.int)) := by
  unfold ints1 at e
  split at e
  · split at e
    · rename_i x _ ds hd
      obtain ⟨v, rfl, rv⟩ := rv_of1 rr rfl
      obtain ⟨a, ws, rfl, q, w⟩ := viewS_of sm gd rv hd
      have z := w.intsD e
      subst z
      exact ⟨a, rfl, q⟩
    · cases e
  · cases e

theorem cb_len : CallR X (.builtin "len") (rOp1 X.K bLen) := by
  intro pins s σ H xs us Q I r ⟨F, β, h, rs, H₀, r', sm, gd, rr, e, q⟩
  unfold bLen at e
  split at e
  · rename_i ds hd
    cases e
    obtain ⟨a, ws, rfl, q1, w⟩ := seq1_of sm gd rr hd
    refine call_len_seq pins s σ H _ us Q I r ⟨a, ws, rfl, q1, ?_⟩
    rw [w.len]
    exact q _ _ _ (.refl sm) rfl
  · cases e
theorem cb_abs : CallR X (.builtin "abs") (rOp1 X.K bAbs) := by
  intro pins s σ H xs us Q I r ⟨F, β, h, rs, H₀, r', sm, gd, rr, e, q⟩
  unfold bAbs at e
  split at e
  · rename_i i
    cases e
    obtain ⟨v, rfl, rv⟩ := rv_of1 rr rfl
    cases (show v = .int i from rv)
    exact call_abs pins s σ H _ us Q I r ⟨i, rfl, q _ _ _ (.refl sm) rfl⟩
  · cases e
theorem sum_tup {pins : List (Addr × Obj)} {s : Shared} {σ : L2.St} {a : Addr} {ns : List Int} {Q : VK} (hc : X.calm = true) (I : L2.Inv X pins σ H s) (hs : SqT X.K H a (ns.map V.int)) (q : Q (.int ns.sum) H) :
    wpAny (model X.prog X.w) X.A (call (.builtin "sum") [.ref a]) (EP X pins σ Q) X.xe s := by
  obtain ⟨us, rv, ht, _⟩ := I.tuple hs
  obtain ⟨xs, hx⟩ := (rv.ints).allInts.items
  have hn := (rv.ints).numsOf
  have hx : us.toArray = intItems xs := hx
  rw [show us = us.toArray.toList by simp, hx, nums_intItems] at hn
  rw [hx] at ht
  refine PySem.W.ktm_sumG (I.ok.hd hc) (show s.heap.IsTuple a (intItems xs) from ht) fun h' tk t' hk => ?_
  rw [preSum_eq, List.take_of_length_le (by simp), hn]
  exact ⟨.int _, H, I.kept hk, ⟨_, rfl⟩, q⟩
theorem cb_sum (hc : X.calm = true) : CallR X (.builtin "sum") (rOp1 X.K bSum) := by
  intro pins s σ H xs us Q I r ⟨F, β, h, rs, H₀, r', sm, gd, rr, e, q⟩
  unfold bSum at e
  split at e
  · rename_i ns hn
    cases e
    obtain ⟨a, rfl, q1⟩ := ints1_of sm gd rr hn
    have fin := q _ _ _ (.refl sm) (rfl : RR X.K F β H H (.d (.int ns.sum)) (.int ns.sum))
    rcases q1 with q1 | q1
    · exact cr_sum hc pins s σ H _ us Q I r ⟨a, ns, rfl, q1, fin⟩
    · rw [Vals.ref1 r]
      exact sum_tup hc I q1 fin
  · cases e
theorem cb_mn2 (hc : X.calm = true) : CallR X (.builtin "min") (rOp1 X.K bMn2) := by
  intro pins s σ H xs us Q I r ⟨F, β, h, rs, H₀, r', sm, gd, rr, e, q⟩
  unfold bMn2 at e
  split at e
  · rename_i i j
    cases e
    obtain ⟨v, w, rfl, r1, r2⟩ := rv_of2 rr rfl
    cases (show v = .int i from r1)
    cases (show w = .int j from r2)
    exact call_min2 hc pins s σ H _ us Q I r ⟨i, j, rfl, q _ _ _ (.refl sm) rfl⟩
  · cases e
theorem cb_mx2 (hc : X.calm = true) : CallR X (.builtin "max") (rOp1 X.K bMx2) := by
  intro pins s σ H xs us Q I r ⟨F, β, h, rs, H₀, r', sm, gd, rr, e, q⟩
  unfold bMx2 at e
  split at e
  · rename_i i j
    cases e
    obtain ⟨v, w, rfl, r1, r2⟩ := rv_of2 rr rfl
    cases (show v = .int i from r1)
    cases (show w = .int j from r2)
    exact call_max2 hc pins s σ H _ us Q I r ⟨i, j, rfl, q _ _ _ (.refl sm) rfl⟩
  · cases e
theorem cb_lst : CallR X (.type "list") (rOp1 X.K bLst) := by
  intro pins s σ H xs us Q I r ⟨F, β, h, rs, H₀, r', sm, gd, rr, e, q⟩
  unfold bLst at e
  split at e
  · rename_i ds hd
    cases e
    obtain ⟨a, ws, rfl, q1, w⟩ := seq1_of sm gd rr hd
    exact call_list_of pins s σ H _ us Q I r ⟨a, ws, rfl, q1, new_lst sm w q⟩
  · cases e
theorem cb_tup : CallR X (.type "tuple") (rOp1 X.K bTup) := by
  intro pins s σ H xs us Q I r ⟨F, β, h, rs, H₀, r', sm, gd, rr, e, q⟩
  unfold bTup at e
  split at e
  case h_2 => cases e
  rename_i ds hd
  cases e
  unfold seq1 at hd
  split at hd
  case h_2 => cases hd
  rename_i x
  obtain ⟨v, rfl, rv⟩ := rv_of1 rr rfl
  unfold viewS at hd
  split at hd
  · rename_i l hl
    cases hd
    obtain ⟨a, ws, rfl, q1, q2, w⟩ := viewT_of (K := X.K) sm rv hl
    exact call_tuple_of pins s σ H _ us Q I r ⟨a, ws, rfl, .inr ⟨q1, q _ _ _ (.refl sm) ⟨a, ws, rfl, q2, w⟩⟩⟩
  · obtain ⟨a, ws, rfl, q1, w⟩ := viewL_of sm gd rv hd
    exact call_tuple_of pins s σ H _ us Q I r ⟨a, ws, rfl, .inl ⟨.inl q1, new_tup sm gd w q⟩⟩
theorem cb_int : CallR X (.type "int") (rOp1 X.K bInt) := by
  intro pins s σ H xs us Q I r ⟨F, β, h, rs, H₀, r', sm, gd, rr, e, q⟩
  unfold bInt at e
  split at e
  · rename_i i
    cases e
    obtain ⟨v, rfl, rv⟩ := rv_of1 rr rfl
    cases (show v = .int i from rv)
    exact call_int1 pins s σ H _ us Q I r (.inl ⟨i, rfl, q _ _ _ (.refl sm) rfl⟩)
  · rename_i i
    cases e
    obtain ⟨v, rfl, rv⟩ := rv_of1 rr rfl
    cases (show v = .bl i from rv)
    exact call_int1 pins s σ H _ us Q I r (.inr ⟨i, rfl, q _ _ _ (.refl sm) rfl⟩)
  · cases e
theorem cb_str : CallR X (.type "str") (rOp1 X.K bStr) := by
  intro pins s σ H xs us Q I r ⟨F, β, h, rs, H₀, r', sm, gd, rr, e, q⟩
  unfold bStr at e
  split at e
  · rename_i i
    split at e
    · rename_i hl
      cases e
      obtain ⟨v, rfl, rv⟩ := rv_of1 rr rfl
      cases (show v = .int i from rv)
      refine call_str_int pins s σ H _ us Q I r ⟨i, rfl, hl, q _ _ _ (.refl sm) ?_⟩
      show V.str _ = V.str (PyData.shown (.int i))
      rw [PyData.shown]
    · cases e
  · cases e
theorem bools1_of {K : Kf} {rs : List R} {vs : List V} {ns : List Bool} (sm : Same F H) (gd : Good K F β h) (rr : RRs K F β H₀ H rs vs) (e : bools1 rs h = some ns) : ∃ a, vs = [.ref a] ∧ SqL K H a (ns.map V.bl) := by
  unfold bools1 at e
  split at e
  · split at e
    · rename_i x _ ds hd
      obtain ⟨v, rfl, rv⟩ := rv_of1 rr rfl
      obtain ⟨a, ws, rfl, q, w⟩ := viewL_of sm gd rv hd
      have z := w.boolsD e
      subst z
      exact ⟨a, rfl, .inl q⟩
    · cases e
  · cases e
theorem cb_any (hc : X.calm = true) : CallR X (.builtin "any") (rOp1 X.K bAny) := by
  intro pins s σ H xs us Q I r ⟨F, β, h, rs, H₀, r', sm, gd, rr, e, q⟩
  unfold bAny at e
  split at e
  · rename_i ns hn
    cases e
    obtain ⟨a, rfl, q1⟩ := bools1_of sm gd rr hn
    exact cr_any hc pins s σ H _ us Q I r ⟨a, ns, rfl, q1, q _ _ _ (.refl sm) rfl⟩
  · cases e
theorem cb_all (hc : X.calm = true) : CallR X (.builtin "all") (rOp1 X.K bAll) := by
  intro pins s σ H xs us Q I r ⟨F, β, h, rs, H₀, r', sm, gd, rr, e, q⟩
  unfold bAll at e
  split at e
  · rename_i ns hn
    cases e
    obtain ⟨a, rfl, q1⟩ := bools1_of sm gd rr hn
    exact cr_all hc pins s σ H _ us Q I r ⟨a, ns, rfl, q1, q _ _ _ (.refl sm) rfl⟩
  · cases e
/-! ### min, max of ints -/
theorem min_eq : ∀ (r : List Int) (n m : Int), m ∈ n :: r → (∀ y, y ∈ n :: r → m ≤ y) → m = r.foldl min n
  | [], n, m, h, _ => by simpa using h
  | x :: r, n, m, h, k => by
    rw [List.foldl_cons]
    refine min_eq r (min n x) m ?_ fun y hy => ?_
    · have h1 := k n (by simp)
      have h2 := k x (by simp)
      simp only [List.mem_cons] at h ⊢
      rcases h with h | h | h
      · left; omega
      · left; omega
      · exact .inr h
    · rcases List.mem_cons.mp hy with z | z
      · have h1 := k n (by simp)
        have h2 := k x (by simp)
        omega
      · exact k y (by simp [z])
theorem max_eq : ∀ (r : List Int) (n m : Int), m ∈ n :: r → (∀ y, y ∈ n :: r → y ≤ m) → m = r.foldl max n
  | [], n, m, h, _ => by simpa using h
  | x :: r, n, m, h, k => by
    rw [List.foldl_cons]
    refine max_eq r (max n x) m ?_ fun y hy => ?_
    · have h1 := k n (by simp)
      have h2 := k x (by simp)
      simp only [List.mem_cons] at h ⊢
      rcases h with h | h | h
      · left; omega
      · left; omega
      · exact .inr h
    · rcases List.mem_cons.mp hy with z | z
      · have h1 := k n (by simp)
        have h2 := k x (by simp)
        omega
      · exact k y (by simp [z])
theorem alike_ints1 : ∀ ns : List Int, PySem.W.AllAlike (ns.map PyData.int) := by
  intro ns x hx y hy
  obtain ⟨i, _, rfl⟩ := List.mem_map.mp hx
  obtain ⟨j, _, rfl⟩ := List.mem_map.mp hy
  rfl
end
end MP
end

section
set_option Elab.async false
set_option linter.all false
set_option maxRecDepth 100000
set_option maxHeartbeats 4000000
namespace MP
open PySem PySem.Spec L2 PyProof.Rows
open PySem.W (EachIs AllAlike Sortable alike alikeAll dataLe TotalLe sameRank)

/-! ## sorting -/
section
variable {α : Type} {le : α → α → Bool}
theorem insBy_mem (x y : α) : ∀ l : List α, y ∈ insBy le x l ↔ y = x ∨ y ∈ l
  | [] => by simp [insBy]
  | z :: r => by
    unfold insBy
    split
    · simp
    · rw [List.mem_cons, insBy_mem x y r, List.mem_cons]
      constructor
      · rintro (h | h | h)
        · exact .inr (.inl h)
        · exact .inl h
        · exact .inr (.inr h)
      · rintro (h | h | h)
        · exact .inr (.inl h)
        · exact .inl h
        · exact .inr (.inr h)
theorem insBy_pw (h : TotalLe le) (x : α) : ∀ l : List α, l.Pairwise (fun a b => le a b = true) → (insBy le x l).Pairwise (fun a b => le a b = true)
  | [], _ => by simp [insBy]
  | z :: r, p => by
    unfold insBy
    have p' := List.pairwise_cons.mp p
    split
    · rename_i hx
      refine List.pairwise_cons.mpr ⟨fun a ha => ?_, p⟩
      rcases List.mem_cons.mp ha with e | e
      · rw [e]; exact hx
      · exact h.trans _ _ _ hx (p'.1 a e)
    · rename_i hx
      refine List.pairwise_cons.mpr ⟨fun a ha => ?_, insBy_pw h x r p'.2⟩
      rcases (insBy_mem x a r).mp ha with e | e
      · rcases h.total x z with q | q
        · exact absurd q hx
        · rw [e]; exact q
      · exact p'.1 a e
theorem insBy_flt (h : TotalLe le) (c x : α) : ∀ l : List α, (insBy le x l).filter (sameRank le c) = (x :: l).filter (sameRank le c)
  | [] => rfl
  | z :: r => by
    unfold insBy
    split
    · rfl
    · rename_i hx
      rw [List.filter_cons, insBy_flt h c x r, List.filter_cons, List.filter_cons (xs := z :: r), List.filter_cons (xs := r)]
      by_cases cz : sameRank le c z = true
      · have cx : ¬ sameRank le c x = true := fun cx => by
          simp only [PySem.W.sameRank, Bool.and_eq_true] at cz cx
          exact hx (h.trans _ _ _ cx.2 cz.1)
        simp [cz, cx]
      · by_cases cx : sameRank le c x = true <;> simp [cz, cx]
theorem isort_eq (h : TotalLe le) (l : List α) : isort le l = l.mergeSort le := by
  refine PySem.W.sort_unique h ?_ ?_
  · induction l with
    | nil => simp [isort]
    | cons x r ih => exact insBy_pw h x _ ih
  · intro c
    induction l with
    | nil => rfl
    | cons x r ih =>
      unfold isort
      rw [insBy_flt h, List.filter_cons, List.filter_cons, ih]
end
theorem flat_all {k : Nat} (ih : ∀ p q : PyData, flatI k p = true → flatI k q = true → alike p q = true) : ∀ xs ys : List PyData, xs.all (flatI k) = true → ys.all (flatI k) = true → alikeAll xs ys = true
  | [], _, _, _ => by simp [PySem.W.alikeAll]
  | _ :: _, [], _, _ => by simp [PySem.W.alikeAll]
  | x :: r, y :: s, hp, hq => by
    rw [List.all_cons, Bool.and_eq_true] at hp hq
    simp only [PySem.W.alikeAll, Bool.and_eq_true]
    exact ⟨ih x y hp.1 hq.1, flat_all ih r s hp.2 hq.2⟩
theorem flat_alike : ∀ (k : Nat) (p q : PyData), flatI k p = true → flatI k q = true → alike p q = true
  | 0, .int _, .int _, _, _ => rfl
  | k + 1, .tuple xs, .tuple ys, hp, hq => flat_all (flat_alike k) xs ys hp hq
theorem alikes2_all : ∀ ps : List PyData, alikes2 ps = true → AllAlike ps
  | [], _ => fun d hd => by simp at hd
  | x :: r, h => by
    unfold alikes2 at h
    rw [Bool.and_eq_true, Bool.and_eq_true] at h
    obtain ⟨⟨h1, h2⟩, h3⟩ := h
    rw [List.all_eq_true] at h2
    have ih := alikes2_all r h3
    intro d hd e he
    rcases List.mem_cons.mp hd with z | z <;> rcases List.mem_cons.mp he with w | w
    · subst z w; exact h1
    · subst z
      have := h2 e w
      rw [Bool.and_eq_true] at this
      exact this.1
    · subst w
      have := h2 d z
      rw [Bool.and_eq_true] at this
      exact this.2
    · exact ih d z e w
theorem alikes_all {ps : List PyData} (h : alikes ps = true) : AllAlike ps := by
  unfold alikes at h
  have fl : ∀ k, ps.all (flatI k) = true → AllAlike ps := fun k h d hd e he => flat_alike k d e (List.all_eq_true.mp h d hd) (List.all_eq_true.mp h e he)
  rw [Bool.or_eq_true, Bool.or_eq_true, Bool.or_eq_true, Bool.or_eq_true] at h
  rcases h with h | h | h | h | h
  · exact fl _ h
  · exact fl _ h
  · exact fl _ h
  · exact fl _ h
  · exact alikes2_all ps h
theorem sortable_of {ps : List PyData} (h : (ps.all tupNE || ps.all plainK) = true) : Sortable ps := by
  rw [Bool.or_eq_true] at h
  rcases h with h | h
  · refine .inl fun d hd => ?_
    have := List.all_eq_true.mp h d hd
    unfold tupNE at this
    split at this
    · exact ⟨_, _, rfl⟩
    · cases this
  · refine .inr fun d hd => ?_
    have := List.all_eq_true.mp h d hd
    cases d with
    | none => cases this
    | tuple xs => cases this
    | _ => exact ⟨by simp, by simp⟩
section
variable {X : Cx} {pins : List (Addr × Obj)} {s : Shared} {σ : L2.St} {F H H₀ : Hp} {β : List Addr} {h : Hh}
/-- the values of a list, and their data -/
theorem each_of (I : L2.Inv X pins σ H s) (sm : Same F H) (gd : Good X.K F β h) : ∀ {ds : List D} {ws : List V} {ps : List PyData} {its : List Value}, VRs X.K F β ds ws → pys h ds = some ps → Vals ws its →
    EachIs (fun (u : Value) (b : D × PyData) => (∃ v, RelV v u ∧ VR X.K F β b.1 v) ∧ ∃ as, Reads s.heap u b.2 as) its (ds.zip ps) ∧ (ds.zip ps).map (·.2) = ps ∧ ps.length = ds.length
  | [], _, ps, its, w, e, r => by
    cases w; cases r
    cases (show some [] = some ps from e)
    exact ⟨.nil, rfl, rfl⟩
  | d :: ds, _, ps, its, ⟨v, ws, e1, w1, w2⟩, e, r => by
    subst e1
    obtain ⟨p, qs, rfl, ep, eq⟩ := allO_cons (show allO (py h deep d :: ds.map (py h deep)) = some ps from e)
    cases r with
    | cons rx rr =>
      obtain ⟨h1, h2, h3⟩ := each_of I sm gd w2 eq rr
      obtain ⟨as, rd⟩ := Dp.reads I _ _ _ (dp_of sm gd deep d v p w1 ep) rx
      refine ⟨.cons ⟨⟨v, rx, w1⟩, as, rd⟩ h1, ?_, ?_⟩
      · rw [List.zip_cons_cons, List.map_cons, h2]
      · rw [List.length_cons, List.length_cons, h3]
theorem out_of {bs : List (D × PyData)} : ∀ {out : List Value}, EachIs (fun (u : Value) (b : D × PyData) => ∃ v, RelV v u ∧ VR X.K F β b.1 v) out bs → ∃ ws, Vals ws out ∧ VRs X.K F β (bs.map (·.1)) ws := by
  intro out e
  induction e with
  | nil => exact ⟨[], .nil, rfl⟩
  | cons h1 _ ih =>
    obtain ⟨v, r, w⟩ := h1
    obtain ⟨ws, r2, w2⟩ := ih
    exact ⟨v :: ws, .cons r r2, ⟨v, ws, rfl, w, w2⟩⟩
/-- a list or a tuple as the heap holds it -/
theorem seq_obj (I : L2.Inv X pins σ H s) {a : Addr} {ws : List V} (q : SqL X.K H a ws ∨ SqT X.K H a ws) : ∃ (T : String) (o : Obj) (its : List Value) (n : Nat), (T = "list" ∨ T = "tuple") ∧ s.heap.get? a = some o ∧ o.cls = .type T ∧ o.data = .seq its.toArray n ∧ Vals ws its ∧ ws.length ≤ sizeLine := by
  rcases q with q | q
  · obtain ⟨its, r, pl, hz⟩ := I.list q
    obtain ⟨o, ho, hc, n, hd⟩ := pl.isList
    exact ⟨_, o, its, n, .inl rfl, ho, hc, hd, r, hz⟩
  · obtain ⟨its, r, pl, hz⟩ := I.tuple q
    obtain ⟨o, ho, hc, n, hd⟩ := pl
    exact ⟨_, o, its, n, .inr rfl, ho, hc, hd, r, hz⟩
theorem cb_srt (hu : X.A.units + 65 < cLine) : CallR X (.builtin "sorted") (rOp1 X.K bSrt) := by
  intro pins s σ H xs us Q I r ⟨F, β, h, rs, H₀, r', sm, gd, rr, e, q⟩
  unfold bSrt at e
  split at e
  case h_2 => cases e
  rename_i ds hd
  obtain ⟨a, ws, rfl, q1, w⟩ := seq1_of sm gd rr hd
  unfold srtD at e
  split at e
  case h_2 => cases e
  rename_i ps hp
  split at e
  case isFalse => cases e
  rename_i hc
  cases e
  rw [Bool.and_eq_true, Bool.and_eq_true, Bool.and_eq_true] at hc
  obtain ⟨⟨⟨c1, c2⟩, c3⟩, c4⟩ := hc
  have c1 : ds.length ≤ sizeLine := of_decide_eq_true c1
  rw [Vals.ref1 r]
  obtain ⟨T, o, its, n, hT, ho, hcl, hdt, rv, hz⟩ := seq_obj I q1
  have hlen := rv.length
  refine call_function_entry_kw kind_sorted plain_sorted entry_sorted (args_sorted1 _) ?_
  unfold Builtin.«sorted»
  refine wpAny_bind (m := checkCount "sorted" 1 1 _) (wpAny_pure ?_)
  refine wpAny_bind (wpAny_collect_seq a hT ho hcl hdt (fun h' k => ?_) (by rw [List.size_toArray]; omega))
  show wpAny (model X.prog X.w) X.A.in1 (newList its >>= _) _ _ _
  refine wpAny_bind (wpAny_newList ?_ (by omega))
  obtain ⟨he, em, el⟩ := each_of I sm gd w hp rv
  have hat : (h'.push (seqObj "list" its.toArray 0)).get? h'.objs.size = some (seqObj "list" its.toArray 0) := Heap.get?_push_size _ rfl
  have kp : ∀ b o', s.heap.get? b = some o' → (h'.push (seqObj "list" its.toArray 0)).get? b = some o' := fun b o' z => Heap.get?_push_of_some _ (k b o' z)
  have ne : ∀ {b : Addr} {o' : Obj}, s.heap.get? b = some o' → b ≠ h'.objs.size := fun {b o'} z => Nat.ne_of_lt (Heap.lt_size (k b o' z))
  have kp2 : ∀ b o', s.heap.get? b = some o' → (PySem.W.sortingHeap (h'.push (seqObj "list" its.toArray 0)) h'.objs.size its).get? b = some o' := fun b o' z => PySem.W.sortingHeap_old (ne z) (kp b o' z)
  have he2 : EachIs (fun v (b : D × PyData) => ∃ as, Reads (PySem.W.sortingHeap (h'.push (seqObj "list" its.toArray 0)) h'.objs.size its) v b.2 as) its (ds.zip ps) := he.mono fun _ _ ⟨_, as, rd⟩ => ⟨as, PyProof.Rows.Reads.keeps kp2 rd⟩
  have hal : AllAlike ((ds.zip ps).map fun b => b.2) := by rw [em]; exact alikes_all c2
  have hso : Sortable ((ds.zip ps).map fun b => b.2) := by rw [em]; exact sortable_of c3
  have hdep : ∀ d, d ∈ ((ds.zip ps).map fun b => b.2) → X.A.in1.in1.units + d.depth < cLine := by
    rw [em]
    intro d hd
    have := of_decide_eq_true (List.all_eq_true.mp c4 d hd)
    show X.A.units + 1 + 1 + d.depth < cLine
    omega
  have S : PySem.W.SortsAt X.prog X.w X.A.in1.in1 { s with heap := PySem.W.sortingHeap (h'.push (seqObj "list" its.toArray 0)) h'.objs.size its } (PySem.W.dataKind (PySem.W.sortingHeap (h'.push (seqObj "list" its.toArray 0)) h'.objs.size its) ((ds.zip ps).map fun b => b.2)) its :=
    PySem.W.SortsAt.data (s := { s with heap := PySem.W.sortingHeap (h'.push (seqObj "list" its.toArray 0)) h'.objs.size its }) (PySem.W.each_map (R := fun v d => ∃ as, Reads (PySem.W.sortingHeap (h'.push (seqObj "list" its.toArray 0)) h'.objs.size its) v d as) (fun b : D × PyData => b.2) he2) hal hso hdep
  have hout := PySem.W.sortVals_data (R := fun (u : Value) (b : D × PyData) => ∃ v, RelV v u ∧ VR X.K F β b.1 v) false (he.mono fun _ _ z => z.1) he2 hal
  have hout : EachIs (fun u b => ∃ v, RelV v u ∧ VR X.K F β b.1 v) _ (isort (dataLe false fun b : D × PyData => b.2) (ds.zip ps)) := (isort_eq (PySem.W.sortLe_total _ _ _) (ds.zip ps)).symm ▸ hout
  obtain ⟨ws2, rv2, w2⟩ := out_of hout
  have final : EP X pins σ Q (.ref h'.objs.size) { s with heap := sortedHeap (h'.push (seqObj "list" its.toArray 0)) h'.objs.size its (PySem.W.sortVals (PySem.W.dataKind (PySem.W.sortingHeap (h'.push (seqObj "list" its.toArray 0)) h'.objs.size its) ((ds.zip ps).map fun b => b.2)) false its its).toArray } := by
    obtain ⟨c', hc'⟩ := sortedHeap_at (vs := its) (out := (PySem.W.sortVals (PySem.W.dataKind (PySem.W.sortingHeap (h'.push (seqObj "list" its.toArray 0)) h'.objs.size its) ((ds.zip ps).map fun b => b.2)) false its its).toArray) hat
    have I1 : L2.Inv X pins σ H { s with heap := h' } := I.kept (t' := s.toks) k
    have kp3 : ∀ b o', h'.get? b = some o' → (h'.push (seqObj "list" its.toArray 0)).get? b = some o' := fun b o' z => Heap.get?_push_of_some _ z
    refine ⟨.ref h'.objs.size, _, I1.laid (t' := s.toks) (o := .lst ws2) (fun b o' z => (sortedHeap_old (Nat.ne_of_lt (Heap.lt_size z)) (Heap.lt_size (kp3 b o' z))).trans (kp3 b o' z)) (Nat.le_refl _) ⟨?_, _, c', rv2, hc'⟩, rfl, new_lst sm w2 q _ (I1.hok.fresh (Nat.le_refl _))⟩
    have l1 := rv2.length
    rw [PySem.W.sortVals_length false rfl] at l1
    omega
  refine wpAny_bind (wpAny_holding (wpAny_call_entry_kw slot_list_sort ⟨_, hat, rfl⟩ entry_list_sort ?_ (args_list_sort _)))
  refine wpAny_mono (PySem.W.list_sort_vals (P := fun f s' => f = .done (.ret .none) ∧ EP X pins σ Q (.ref h'.objs.size) s') (a := h'.objs.size) (n := 0) (s := { s with heap := h'.push (seqObj "list" its.toArray 0) }) hat S (by omega) ⟨rfl, final⟩) (fun f s' hf => ?_) fun _ _ e => e
  obtain ⟨rfl, hq⟩ := hf
  exact ⟨_, rfl, wpAny_pure ⟨_, rfl, hq⟩⟩
end
end MP
end

section
set_option Elab.async false
set_option linter.all false
set_option maxRecDepth 100000
set_option maxHeartbeats 4000000
namespace MP
open PySem PySem.Spec L2 PyProof.Rows
open PySem.W (EachIs AllAlike Sortable alike alikeAll dataLe TotalLe sameRank)
section
variable {X : Cx} {pins : List (Addr × Obj)} {s : Shared} {σ : L2.St} {F H H₀ : Hp} {β : List Addr} {h : Hh}
/-! ### min, max of ints -/
theorem reads_ints {hp : Heap} : ∀ {ns : List Int} {us : List Value}, Vals (ns.map V.int) us → ReadsAll hp us (ns.map PyData.int) []
  | [], _, r => by cases r; exact .nil
  | n :: ns, _, r => by
    cases r with
    | cons rx rr =>
      obtain ⟨t, rfl⟩ := rx
      exact .cons (as := []) (bs := []) (.int n t) (reads_ints rr)
theorem ints_alikeA (ns : List Int) : PySem.W.AlikeAll (ns.map PyData.int) := by
  refine ⟨fun x hx y hy => ?_, fun x hx => ?_⟩
  · obtain ⟨i, _, rfl⟩ := List.mem_map.mp hx
    obtain ⟨j, _, rfl⟩ := List.mem_map.mp hy
    rfl
  · obtain ⟨i, _, rfl⟩ := List.mem_map.mp hx
    exact nofun
theorem reads_int {hp : Heap} {v : Value} {n : Int} {bs : List Addr} (r : Reads hp v (.int n) bs) : ∃ t, v = .int n t := by
  cases r with
  | int _ t => exact ⟨t, rfl⟩
theorem cb_mn (hc : X.calm = true) (hu : X.A.units + 65 < cLine) : CallR X (.builtin "min") (rOp1 X.K bMn) := by
  intro pins s σ H xs us Q I r ⟨F, β, h, rs, H₀, r', sm, gd, rr, e, q⟩
  unfold bMn at e
  split at e
  · rename_i n ns hn
    cases e
    obtain ⟨a, rfl, q1⟩ := ints1_of sm gd rr hn
    have fin := q _ _ _ (.refl sm) (rfl : RR X.K F β H H (.d (.int (ns.foldl min n))) (.int (ns.foldl min n)))
    rw [Vals.ref1 r]
    have last : ∀ (v : Value) (h' : Heap) (tk : Nat) (bs : List Addr), Reads h' v (PySem.W.minD (.int n) (ns.map PyData.int)) bs → (∀ b o, s.heap.get? b = some o → h'.get? b = some o) → EP X pins σ Q v { s with heap := h', toks := tk } := fun v h' tk bs rd k => by
      rw [PySem.W.minD_ints] at rd
      obtain ⟨t, rfl⟩ := reads_int rd
      exact ⟨.int _, H, I.kept k, ⟨t, rfl⟩, fin⟩
    have hd : PyData.depthAll ((n :: ns).map PyData.int) = 0 := PySem.W.depth_ints _
    rcases q1 with q1 | q1
    · obtain ⟨its, rv, pl, hz⟩ := I.list q1
      exact PySem.W.min_list_data (x := .int n) (xs := ns.map PyData.int) (as := []) (I.ok.hd hc) pl.isList (by simpa using reads_ints rv) (ints_alikeA (n :: ns)) (by rw [show (PyData.int n :: ns.map PyData.int) = (n :: ns).map PyData.int from rfl, hd]; omega) fun i v h' tk bs _ rd k => last v h' tk bs rd k
    · obtain ⟨its, rv, pl, hz⟩ := I.tuple q1
      exact PySem.W.min_tuple_data (x := .int n) (xs := ns.map PyData.int) (as := []) (I.ok.hd hc) (show s.heap.IsTuple a its.toArray from pl) (by simpa using reads_ints rv) (ints_alikeA (n :: ns)) (by rw [show (PyData.int n :: ns.map PyData.int) = (n :: ns).map PyData.int from rfl, hd]; omega) fun i v h' tk bs _ rd k => last v h' tk bs rd k
  · cases e
theorem cb_mx (hc : X.calm = true) (hu : X.A.units + 65 < cLine) : CallR X (.builtin "max") (rOp1 X.K bMx) := by
  intro pins s σ H xs us Q I r ⟨F, β, h, rs, H₀, r', sm, gd, rr, e, q⟩
  unfold bMx at e
  split at e
  · rename_i n ns hn
    cases e
    obtain ⟨a, rfl, q1⟩ := ints1_of sm gd rr hn
    have fin := q _ _ _ (.refl sm) (rfl : RR X.K F β H H (.d (.int (ns.foldl max n))) (.int (ns.foldl max n)))
    rw [Vals.ref1 r]
    have last : ∀ (v : Value) (h' : Heap) (tk : Nat) (bs : List Addr), Reads h' v (PySem.W.maxD (.int n) (ns.map PyData.int)) bs → (∀ b o, s.heap.get? b = some o → h'.get? b = some o) → EP X pins σ Q v { s with heap := h', toks := tk } := fun v h' tk bs rd k => by
      rw [PySem.W.maxD_ints] at rd
      obtain ⟨t, rfl⟩ := reads_int rd
      exact ⟨.int _, H, I.kept k, ⟨t, rfl⟩, fin⟩
    have hd : PyData.depthAll ((n :: ns).map PyData.int) = 0 := PySem.W.depth_ints _
    rcases q1 with q1 | q1
    · obtain ⟨its, rv, pl, hz⟩ := I.list q1
      exact PySem.W.max_list_data (x := .int n) (xs := ns.map PyData.int) (as := []) (I.ok.hd hc) pl.isList (by simpa using reads_ints rv) (ints_alikeA (n :: ns)) (by rw [show (PyData.int n :: ns.map PyData.int) = (n :: ns).map PyData.int from rfl, hd]; omega) fun i v h' tk bs _ rd k => last v h' tk bs rd k
    · obtain ⟨its, rv, pl, hz⟩ := I.tuple q1
      exact PySem.W.max_tuple_data (x := .int n) (xs := ns.map PyData.int) (as := []) (I.ok.hd hc) (show s.heap.IsTuple a its.toArray from pl) (by simpa using reads_ints rv) (ints_alikeA (n :: ns)) (by rw [show (PyData.int n :: ns.map PyData.int) = (n :: ns).map PyData.int from rfl, hd]; omega) fun i v h' tk bs _ rd k => last v h' tk bs rd k
  · cases e

/-! ### repr -/
theorem len_app (a b : Str) : (a ++ b).length = a.length + b.length := PySem.strLen_append a b
theorem textFrom_le : ∀ (ts : List Str) (k : Nat) (acc : Str), (textFrom k acc ts).length ≤ acc.length + piled ts
  | [], k, acc => by show acc.length ≤ _; omega
  | t :: r, k, acc => by
    have ih := textFrom_le r (k + 1) (acc ++ (if k > 0 then ", " else "" : String) ++ t)
    have e : (acc ++ (if k > 0 then ", " else "" : String) ++ t).length = acc.length + (if k > 0 then 2 else 0) + t.length := by
      rw [len_app, len_app]
      split <;> rfl
    show (textFrom (k + 1) _ r).length ≤ _
    rw [piled_cons]
    have : (if k > 0 then 2 else 0 : Nat) ≤ 2 := by split <;> omega
    omega
mutual
theorem room_le : ∀ p : PyData, p.hasDict = false → rOk p = true → p.shown.length ≤ room p
  | .none, _, _ => by decide
  | .bool b, _, _ => by cases b <;> decide
  | .int i, _, _ => by
    rw [PyData.shown]
    have := int_text_length_le (a := i) (k := i.natAbs.log2 + 1) (by omega) (by omega)
    show (Str.ofString (toString i)).length ≤ i.natAbs.log2 + 3
    rw [PySem.ofString_length]
    omega
  | .str x, _, h => by
    rw [PyData.shown]
    refine StrLaws.reprText_len x fun c hc => ?_
    unfold rOk at h
    exact of_decide_eq_true (List.all_eq_true.mp h c hc)
  | .list l, hd, h => by
    have ih := rooms_le l (by rw [PyData.hasDict] at hd; exact hd) (by unfold rOk at h; exact h)
    rw [PyData.shown]
    unfold listText
    rw [len_app]
    have := textFrom_le (PyData.shownAll l) 0 "["
    have e1 : ("[" : Str).length = 1 := by decide
    have e2 : ("]" : Str).length = 1 := by decide
    unfold room
    omega
  | .tuple l, hd, h => by
    have ih := rooms_le l (by rw [PyData.hasDict] at hd; exact hd) (by unfold rOk at h; exact h)
    rw [PyData.shown]
    unfold tupleText
    rw [len_app, len_app]
    have e1 : ("(" : Str).length = 1 := by decide
    have e2 : ((if (PyData.shownAll l).length == 1 then ",)" else ")" : String) : Str).length ≤ 2 := by split <;> decide
    have e3 : (Str.join ", " (PyData.shownAll l)).length ≤ piled (PyData.shownAll l) := by
      cases hs : PyData.shownAll l with
      | nil => decide
      | cons t r => have := join_length_add (t :: r) (by simp); omega
    unfold room
    omega
  | .dict _, hd, _ => by rw [PyData.hasDict] at hd; cases hd
theorem rooms_le : ∀ l : List PyData, PyData.hasDictAll l = false → rOks l = true → piled (PyData.shownAll l) ≤ rooms l
  | [], _, _ => by rw [PyData.shownAll]; decide
  | x :: r, hd, h => by
    rw [PyData.hasDictAll, Bool.or_eq_false_iff] at hd
    unfold rOks at h
    rw [Bool.and_eq_true] at h
    have h1 := room_le x hd.1 h.1
    have h2 := rooms_le r hd.2 h.2
    rw [PyData.shownAll, piled_cons]
    unfold rooms
    omega
end
theorem cb_repr (hg : X.A.guards = some []) (hu : X.A.units + 65 < cLine) : CallR X (.builtin "repr") (rOp1 X.K bRepr) := by
  intro pins s σ H xs us Q I r ⟨F, β, h, rs, H₀, r', sm, gd, rr, e, q⟩
  unfold bRepr at e
  split at e
  case h_2 => cases e
  rename_i x
  obtain ⟨v, rfl, rv⟩ := rv_of1 rr rfl
  unfold reprD at e
  split at e
  case h_2 => cases e
  rename_i p hp
  split at e
  case isFalse => cases e
  rename_i hcnd
  cases e
  rw [Bool.and_eq_true, Bool.and_eq_true, Bool.and_eq_true, Bool.and_eq_true] at hcnd
  obtain ⟨⟨⟨⟨c1, c2⟩, c3⟩, c4⟩, c5⟩ := hcnd
  have c2 : p.hasDict = false := by simpa using c2
  have c4 : p.depth ≤ 40 := of_decide_eq_true c4
  have c5 : room p ≤ sizeLine := of_decide_eq_true c5
  have hsz : p.shown.length ≤ sizeLine := Nat.le_trans (room_le p c2 c3) c5
  have fin := q (.str p.shown) _ _ (.refl sm) rfl
  cases r with
  | cons rx rn =>
    cases rn
    obtain ⟨as, rd⟩ := Dp.reads I p v _ (dp_R sm gd rv hp) rx
    have ref : ∀ a, Reads s.heap (.ref a) p as → wpAny (model X.prog X.w) X.A (call (.builtin "repr") [.ref a]) (EP X pins σ Q) X.xe s := fun a rd =>
      repr_of_reads' rd c1 (fun z => by rw [c2] at z; cases z) hg (by omega) (fun _ _ z => z) (fun h' u tk k => ⟨.str _, H, I.kept k, ⟨u, rfl⟩, fin⟩) hsz
    cases rd with
    | none => exact PySem.P.repr_of_none ⟨.str _, H, I.tok _, ⟨_, rfl⟩, fin⟩
    | bool b => exact PySem.P.repr_of_bool ⟨.str _, H, I.tok _, ⟨_, by cases b <;> rfl⟩, fin⟩
    | int i t => exact PySem.P.repr_of_int (by rw [PyData.showable] at c1; exact of_decide_eq_true c1) ⟨.str _, H, I.tok _, ⟨_, rfl⟩, fin⟩
    | str y t => exact PySem.P.repr_of_str ⟨.str _, H, I.tok _, ⟨_, rfl⟩, fin⟩ hsz
    | list h1 h2 h3 h4 => exact ref _ (.list h1 h2 h3 h4)
    | tuple h1 h2 h3 h4 => exact ref _ (.tuple h1 h2 h3 h4)
    | dict h1 h2 h3 h4 h5 => rw [PyData.hasDict] at c2; cases c2
end
end MP
end

section
set_option Elab.async false
set_option linter.all false
set_option maxRecDepth 100000
set_option maxHeartbeats 4000000
namespace MP
open PySem PySem.Spec L2 PyProof.Rows
/-- no starred one -/
def isStar : Expr → Bool
  | .Starred _ _ => true
  | _ => false
theorem star_cons (e : Expr) (es : List Expr) (env : Env) (h : isStar e = false) : starEach (e :: es) env = (false, eval e env) :: starEach es env := by
  cases e <;> first | rfl | cases h
theorem star_back (pos : Pos) (env : Env) : ∀ es : List Expr, es.all (fun e => !isStar e) = true → (backTo pos (starEach es env)).any (·.1) = false
  | [], _ => rfl
  | e :: es, h => by
    rw [List.all_cons, Bool.and_eq_true] at h
    rw [star_cons e es env (by simpa using h.1)]
    show (false || (backTo pos (starEach es env)).any (·.1)) = false
    rw [star_back pos env es h.2]
    rfl
section
variable {X : Cx} {pos p p2 : Pos} {x : Str} {e : Expr} {es : List Expr} {ds : DenL}
theorem bi_weak {b : BI} {g : B1} (hb : biD b = g) : ∀ σ H Q, tD X.K (kBi b ds) σ H Q → tCB (rOp1 X.K g) (tL X.K ds) σ H Q := fun σ H Q ⟨F, β, h, en, sm, gd, se, post⟩ => by
  refine bindLE sm gd se post fun rs vs F1 β1 H1 h1 sm1 st1 gd1 se1 rr1 nd1 post1 => ?_
  unfold ofO at post1
  split at post1
  · rename_i r e
    exact ⟨F1, β1, h1, rs, H, r, sm1, gd1, rr1, by rw [← hb]; exact e, fun v F' H' ps rr => post1 v F' β1 H' ps.sm ps.step (gd1.more ps.ff) rr⟩
  · exact post1.elim
theorem pd_biB {b : BI} {id : String} {g : B1} (hb : biD b = g) (hc : CallR X (.builtin id) (rOp1 X.K g)) (hg : Gl X x) (hm : X.mg x = none) (hv : bootBuiltins x = some (.builtin id)) (ha : PA X (e :: es) (tL X.K ds)) (hn : x ≠ "__name__") (hdb : (x == ("__debug__" : Str)) = false)
    (hs : (e :: es).all (fun e => !isStar e) = true) : PE X (.Call (.Name x p) (e :: es) [] pos) (tD X.K (kBi b ds)) := by
  rw [List.all_cons, Bool.and_eq_true] at hs
  exact PE_weak (pe_callB hc hg hm hv ha hn hdb (star_cons e es X.env (by simpa using hs.1)) (star_back pos X.env es hs.2)) (bi_weak hb)
theorem pd_biT {b : BI} {id : String} {g : B1} (hb : biD b = g) (hc : CallR X (.type id) (rOp1 X.K g)) (hg : Gl X x) (hm : X.mg x = none) (hv : bootBuiltins x = some (.type id)) (ha : PA X (e :: es) (tL X.K ds)) (hn : x ≠ "__name__") (hdb : (x == ("__debug__" : Str)) = false)
    (hs : (e :: es).all (fun e => !isStar e) = true) : PE X (.Call (.Name x p) (e :: es) [] pos) (tD X.K (kBi b ds)) := by
  rw [List.all_cons, Bool.and_eq_true] at hs
  exact PE_weak (pe_callTy hc hg hm hv ha hn hdb (star_cons e es X.env (by simpa using hs.1)) (star_back pos X.env es hs.2)) (bi_weak hb)

/-! ### isinstance -/
def tyD : D → String
  | .non => "NoneType"
  | .bl _ => "bool"
  | .int _ => "int"
  | .str _ => "str"
  | .rp _ => "str"
  | .tup _ => "tuple"
  | .lst _ => "list"
  | .ref _ => "list"
theorem ty_of {F H : Hp} {β : List Addr} {h : Hh} {d : D} {v : V} (sm : Same F H) (gd : Good X.K F β h) (r : VR X.K F β d v) : TyX X.K H v (.type (tyD d)) := by
  cases d with
  | non => cases (show v = .non from r); exact .base .non
  | bl b => cases (show v = .bl b from r); exact .base (.bl b)
  | int b => cases (show v = .int b from r); exact .base (.int b)
  | str b => cases (show v = .str b from r); exact .base (.str b)
  | rp b => cases (show v = .str b.shown from r); exact .base (.str _)
  | tup ds =>
    obtain ⟨a, vs, rfl, q, _⟩ := r
    rcases q with ⟨_, q⟩ | q
    · rcases Rd.same sm q with q | ⟨o, q⟩
      · exact .base (.tup q)
      · exact .fTuple q
    · rcases q with q | ⟨o, its, n, q, c, _⟩
      · rcases q with q | ⟨o, q⟩ <;> cases q
      · exact .kTuple q c
  | lst ds =>
    obtain ⟨a, vs, rfl, ⟨_, q⟩, _⟩ := r
    rcases Rd.same sm q with q | ⟨o, q⟩
    · exact .base (.lst q)
    · exact .base (.frz q)
  | ref n =>
    obtain ⟨a, q, rfl⟩ := r
    obtain ⟨_, vs, _, _, _, f, _⟩ := gd.mem (List.mem_of_getElem? q)
    exact .base (.lst (sm _ _ f))
theorem ty_R {F H : Hp} {β : List Addr} {h : Hh} {r : R} {v : V} (sm : Same F H) (gd : Good X.K F β h) (rv : RV X.K F β H r v) : TyX X.K H v (.type (tyD r.toD)) := by
  cases r with
  | d d => exact ty_of sm gd rv
  | fl ds =>
    obtain ⟨a, vs, rfl, _, q, _⟩ := rv
    exact .base (.lst q)
theorem kindB (f : D → Bool) (T : String) (hk : ∀ d, kitB (tyD d) T = some (f d)) : CallR X (.builtin "isinstance") (fun xs H Q => ∃ v, xs = [v, .ty T] ∧ rOp1 X.K (bIs f) [v] H Q) := by
  intro pins s σ H xs us Q I r ⟨v, ex, F, β, h, rs, H₀, r', sm, gd, rr, e, q⟩
  subst ex
  unfold bIs at e
  have key : ∀ R' : R, RV X.K F β H R' v → r' = .d (.bl (f R'.toD)) → wpAny (model X.prog X.w) X.A (call (.builtin "isinstance") us) (EP X pins σ Q) X.xe s := fun R' rv e2 => by
    subst e2
    exact call_isi pins s σ H _ us Q I r ⟨v, .ty T, _, _, _, rfl, .ty T, ty_R sm gd rv, kit_ty (hk _), q _ _ _ (.refl sm) rfl⟩
  split at e
  · rename_i y
    cases e
    obtain ⟨w, e2, rv⟩ := rv_of1 rr rfl
    cases e2
    exact key (.d y) rv rfl
  · rename_i y
    cases e
    obtain ⟨w, e2, rv⟩ := rv_of1 rr rfl
    cases e2
    exact key (.fl y) rv rfl
  · cases e
theorem kk {f : D → Bool} {T : String} {b0 b1 b2 b3 b4 b5 : Bool} (h0 : kitB "NoneType" T = some b0) (h1 : kitB "bool" T = some b1) (h2 : kitB "int" T = some b2) (h3 : kitB "str" T = some b3) (h4 : kitB "tuple" T = some b4) (h5 : kitB "list" T = some b5)
    (e0 : f .non = b0) (e1 : ∀ b, f (.bl b) = b1) (e2 : ∀ b, f (.int b) = b2) (e3 : ∀ b, f (.str b) = b3) (e3' : ∀ b, f (.rp b) = b3) (e4 : ∀ b, f (.tup b) = b4) (e5 : ∀ b, f (.lst b) = b5) (e5' : ∀ b, f (.ref b) = b5) : ∀ d, kitB (tyD d) T = some (f d) := by
  intro d
  cases d with
  | non => rw [e0]; exact h0
  | bl b => rw [e1]; exact h1
  | int b => rw [e2]; exact h2
  | str b => rw [e3]; exact h3
  | rp b => rw [e3']; exact h3
  | tup b => rw [e4]; exact h4
  | lst b => rw [e5]; exact h5
  | ref b => rw [e5']; exact h5
theorem kind_int : ∀ d, kitB (tyD d) "int" = some (isInt d) := kk (b0 := false) (b1 := true) (b2 := true) (b3 := false) (b4 := false) (b5 := false) (by decide +kernel) (by decide +kernel) (by decide +kernel) (by decide +kernel) (by decide +kernel) (by decide +kernel) rfl (fun _ => rfl) (fun _ => rfl) (fun _ => rfl) (fun _ => rfl) (fun _ => rfl) (fun _ => rfl) fun _ => rfl
theorem kind_bool : ∀ d, kitB (tyD d) "bool" = some (isBool d) := kk (b0 := false) (b1 := true) (b2 := false) (b3 := false) (b4 := false) (b5 := false) (by decide +kernel) (by decide +kernel) (by decide +kernel) (by decide +kernel) (by decide +kernel) (by decide +kernel) rfl (fun _ => rfl) (fun _ => rfl) (fun _ => rfl) (fun _ => rfl) (fun _ => rfl) (fun _ => rfl) fun _ => rfl
theorem kind_str : ∀ d, kitB (tyD d) "str" = some (isStr d) := kk (b0 := false) (b1 := false) (b2 := false) (b3 := true) (b4 := false) (b5 := false) (by decide +kernel) (by decide +kernel) (by decide +kernel) (by decide +kernel) (by decide +kernel) (by decide +kernel) rfl (fun _ => rfl) (fun _ => rfl) (fun _ => rfl) (fun _ => rfl) (fun _ => rfl) (fun _ => rfl) fun _ => rfl
theorem kind_tup : ∀ d, kitB (tyD d) "tuple" = some (isTup d) := kk (b0 := false) (b1 := false) (b2 := false) (b3 := false) (b4 := true) (b5 := false) (by decide +kernel) (by decide +kernel) (by decide +kernel) (by decide +kernel) (by decide +kernel) (by decide +kernel) rfl (fun _ => rfl) (fun _ => rfl) (fun _ => rfl) (fun _ => rfl) (fun _ => rfl) (fun _ => rfl) fun _ => rfl
theorem kind_lst : ∀ d, kitB (tyD d) "list" = some (isLst d) := kk (b0 := false) (b1 := false) (b2 := false) (b3 := false) (b4 := false) (b5 := true) (by decide +kernel) (by decide +kernel) (by decide +kernel) (by decide +kernel) (by decide +kernel) (by decide +kernel) rfl (fun _ => rfl) (fun _ => rfl) (fun _ => rfl) (fun _ => rfl) (fun _ => rfl) (fun _ => rfl) fun _ => rfl
theorem pd_is {b : BI} {f : D → Bool} {T : String} {y : Str} {d : Den} (hb : biD b = bIs f) (hk : ∀ d, kitB (tyD d) T = some (f d)) (hg : Gl X x) (hm : X.mg x = none) (hv : bootBuiltins x = some (.builtin "isinstance")) (hg2 : Gl X y) (hm2 : X.mg y = none) (hv2 : bootBuiltins y = some (.type T))
    (he : PE X e (tD X.K d)) (hn : x ≠ "__name__") (hdb : (x == ("__debug__" : Str)) = false) (hn2 : y ≠ "__name__") (hdb2 : (y == ("__debug__" : Str)) = false) (hs : isStar e = false) :
    PE X (.Call (.Name x p) [e, .Name y p2] [] pos) (tD X.K (kBi b (kCons d kNil))) := by
  have ha : PA X [e, .Name y p2] (tCons (tD X.K d) (tCons (tC (.ty T)) tNil)) := pa_cons he (pa_cons (pe_bltn hg2 hm2 hv2 rfl hn2 hdb2) pa_nil (star_cons _ _ _ rfl)) (star_cons _ _ _ hs)
  refine PE_weak (pe_callB (kindB f T hk) hg hm hv ha hn hdb (star_cons _ _ _ hs) (star_back pos X.env _ rfl)) fun σ H Q ⟨F, β, h, en, sm, gd, se, post⟩ => ?_
  have e0 : kBi b (kCons d kNil) en h = (d en h).bind fun r h => ofO (bIs f [r] h) h := by
    unfold kBi kCons kNil
    rw [hb]
    cases d en h <;> rfl
  rw [e0] at post
  refine bindE sm gd se post fun r v F1 β1 H1 h1 sm1 st1 gd1 se1 rr1 post1 => ⟨v, rfl, ?_⟩
  unfold ofO at post1
  split at post1
  · rename_i r' e'
    exact ⟨F1, β1, h1, [r], H, r', sm1, gd1, ⟨v, [], rfl, rr1, rfl⟩, e', fun v F' H' ps rr => post1 v F' β1 H' ps.sm ps.step (gd1.more ps.ff) rr⟩
  · exact post1.elim
end
end MP
end

section
set_option Elab.async false
set_option linter.all false
set_option maxRecDepth 100000
set_option maxHeartbeats 4000000
namespace MP
open PySem PySem.Spec L2 PyProof.Rows
theorem dedup_app (ns : List Int) (σ : List Int) : ∀ k, k ∈ ns.foldl step_dedup σ ↔ k ∈ σ ∨ k ∈ ns := by
  induction ns generalizing σ with
  | nil => intro k; simp
  | cons n r ih =>
    intro k
    rw [List.foldl_cons, ih]
    unfold step_dedup
    split
    · rename_i h
      have h : n ∈ σ := by simpa using h
      constructor
      · rintro (z | z)
        · exact .inl z
        · exact .inr (List.mem_cons_of_mem _ z)
      · rintro (z | z)
        · exact .inl z
        · rcases List.mem_cons.mp z with z | z
          · subst z; exact .inl h
          · exact .inr z
    · rw [List.mem_append, List.mem_singleton, List.mem_cons]
      constructor
      · rintro ((z | z) | z)
        · exact .inl z
        · exact .inr (.inl z)
        · exact .inr (.inr z)
      · rintro (z | z | z)
        · exact .inl (.inl z)
        · exact .inl (.inr z)
        · exact .inr z
theorem dedup_nd (ns : List Int) (σ : List Int) (h : σ.Nodup) : (ns.foldl step_dedup σ).Nodup := by
  induction ns generalizing σ with
  | nil => exact h
  | cons n r ih =>
    rw [List.foldl_cons]
    refine ih _ ?_
    unfold step_dedup
    split
    · exact h
    · rename_i hn
      have hn : n ∉ σ := by simpa using hn
      rw [List.nodup_append]
      exact ⟨h, by simp, fun a ha b hb e => by rw [List.mem_singleton] at hb; subst hb; subst e; exact hn ha⟩
theorem map_getD : ∀ ns : List Int, (List.range ns.length).map (fun i => ns.getD i 0) = ns := by
  intro ns
  apply List.ext_getElem
  · simp
  · intro i h1 h2
    simp [List.getD, List.getElem?_eq_getElem h2]
theorem firstMet_all (ns : List Int) : firstMet (fun i => ns.getD i 0) ns.length = dedup ns := by
  unfold firstMet dedup
  rw [map_getD]
theorem nd_len : ∀ (a b : List Int), a.Nodup → (∀ k, k ∈ a → k ∈ b) → a.length ≤ b.length
  | [], b, _, _ => Nat.zero_le _
  | x :: r, b, h, k => by
    rw [List.nodup_cons] at h
    have hx : x ∈ b := k x List.mem_cons_self
    have := nd_len r (b.erase x) h.2 fun y hy => (List.mem_erase_of_ne (fun e : y = x => h.1 (e ▸ hy))).mpr (k y (List.mem_cons_of_mem _ hy))
    rw [List.length_erase_of_mem hx] at this
    have hp : 0 < b.length := List.length_pos_of_mem hx
    rw [List.length_cons]
    omega
section
variable {X : Cx} {pos p p2 q : Pos} {x y : Str} {a e : Expr} {es : List Expr} {d : Den} {ds : DenL}
theorem pd_lenset (hc : X.calm = true) (hg : Gl X "len") (hm : X.mg "len" = none) (hg2 : Gl X "set") (hm2 : X.mg "set" = none) (ha : PE X a (tD X.K d)) (hs : isStar a = false) :
    PE X (.Call (.Name "len" p) [.Call (.Name "set" p2) [a] [] q] [] pos) (tD X.K (kBi .lenset (kCons d kNil))) := by
  have na := star_cons a [] X.env hs
  refine ⟨fun pins s σ H Q I ⟨F, β, h, en, sm, gd, se, post⟩ => ?_⟩
  have e0 : kBi .lenset (kCons d kNil) en h = (d en h).bind fun r h => ofO (bLenset [r] h) h := by
    unfold kBi kCons kNil
    cases d en h <;> rfl
  rw [e0] at post
  have hb := bindE (K := X.K) (k := fun v H1 => ∃ (ns : List Int) (ad : Addr), v = .ref ad ∧ (SqL X.K H1 ad (ns.map V.int) ∨ SqT X.K H1 ad (ns.map V.int)) ∧ ns.length ≤ 4000 ∧ Q (.int (dedup ns).length) H1) sm gd se post fun r v F1 β1 H1 h1 sm1 st1 gd1 se1 rr1 post1 => by
    unfold ofO at post1
    split at post1
    case h_2 => exact post1.elim
    rename_i r' e'
    unfold bLenset at e'
    split at e'
    case h_2 => cases e'
    rename_i ns hn
    split at e'
    case isFalse => cases e'
    rename_i hl
    cases e'
    obtain ⟨ad, ev, q1⟩ := ints1_of (K := X.K) (H₀ := H) (rs := [r]) (vs := [v]) sm1 gd1 ⟨v, [], rfl, rr1, rfl⟩ hn
    cases ev
    exact ⟨ns, ad, rfl, q1, hl, post1 _ F1 β1 H1 sm1 .refl gd1 rfl⟩
  refine Call_ (ld_blt I hg hm PySem.boot_len ?_)
  refine PyProof.Rows.callWith_builtin1 (PyProof.Rows.args_cons ?_ rfl) rfl rfl
  refine Call_ (ld_blt I hg2 hm2 PyProof.Rows.boot_set ?_)
  refine PyProof.Rows.callWith_type1 (PyProof.Rows.args_cons (thn (ha.run pins s σ H _ I hb) fun v s1 ⟨x, H1, I1, r1, q1⟩ => PyProof.Rows.args_nil ?_) na) na rfl
  obtain ⟨ns, l, rfl, hq, hl, q1⟩ := q1
  cases r1
  have hll : (ns.map V.int).length = ns.length := List.length_map ..
  rcases hq with hq | hq
  · obtain ⟨its, r, pl, hz⟩ := I1.list hq
    have hlen : its.toArray.size = ns.length := by rw [List.size_toArray, ← r.length, List.length_map]
    refine call_set_list (I1.ok.hd hc) pl.isList (ns := ns) (by simpa using r.ints) (by rw [hlen]; unfold scanBound; omega) fun h' tk hS hk => ?_
    rw [hlen, firstMet_all] at hS
    refine PyProof.Rows.args_nil ?_
    obtain ⟨o, es, ep, t, ho, hex, hd, _, _, _, hf, hn⟩ := hS
    have I2 : L2.Inv X pins σ H1 { s1 with heap := h', toks := tk } := I1.kept fun b o e => hk b o (Heap.lt_size e) e
    have hle : (dedup ns).length ≤ ns.length := nd_len _ _ (dedup_nd ns [] List.nodup_nil) fun k hk => by
      have := (dedup_app ns [] k).mp hk
      simpa using this
    exact call_len_set ho hex hd hf (by rw [hn] <;> omega) ⟨.int (dedup ns).length, H1, I2.tok _, ⟨_, by rw [hn]⟩, q1⟩
  · obtain ⟨its, r, pl, hz⟩ := I1.tuple hq
    have hlen : its.toArray.size = ns.length := by rw [List.size_toArray, ← r.length, List.length_map]
    refine L2.call_set_tupI ns (I1.ok.hd hc) (show s1.heap.IsTuple l its.toArray from pl) (by simpa using r.ints) (by unfold scanBound; omega) fun h' tk c hS hcn hk => ?_
    refine PyProof.Rows.args_nil ?_
    obtain ⟨o, es, ep, t, ho, hex, hd, _, nd, mem, _, hf, hn, _, _⟩ := hS
    have I2 : L2.Inv X pins σ H1 { s1 with heap := h', toks := tk } := I1.kept hk
    have hmem : ∀ k, k ∈ es.toList.map keyOf ↔ k ∈ dedup ns := fun k => by
      rw [← mem k, decide_eq_true_eq]
      have := dedup_app ns [] k
      unfold dedup
      rw [this]
      simp
    have hc1 : es.size = (dedup ns).length := by
      have l1 := nd_len _ _ nd fun k hk => (hmem k).mp hk
      have l2 := nd_len _ _ (dedup_nd ns [] List.nodup_nil) fun k hk => (hmem k).mpr hk
      rw [List.length_map, Array.length_toList] at l1 l2
      exact Nat.le_antisymm l1 l2
    exact call_len_set ho hex hd hf (by rw [hn] <;> omega) ⟨.int (dedup ns).length, H1, I2.tok _, ⟨_, by rw [hc1]⟩, q1⟩
/-! ### list(range(..)) -/
theorem VRs.rg {K : Kf} {F : Hp} {β : List Addr} (i j : Int) : VRs K F β (rng i j) (rgV i j) := by
  unfold rng rgV
  have : ∀ (l : List Nat) , VRs K F β (l.map fun k => D.int (i + (k : Nat))) (l.map fun k => V.int (i + (k : Nat))) := fun l => by
    induction l with
    | nil => exact rfl
    | cons k r ih => exact ⟨_, _, rfl, rfl, ih⟩
  exact this _
theorem pd_lrng1 (hc : X.calm = true) (hg : Gl X "list") (hm : X.mg "list" = none) (hg2 : Gl X "range") (hm2 : X.mg "range" = none) (ha : PE X a (tD X.K d)) (hs : isStar a = false) :
    PE X (.Call (.Name "list" p) [.Call (.Name "range" p2) [a] [] q] [] pos) (tD X.K (kBi .lrng1 (kCons d kNil))) := by
  refine PE_weak (pe_listRg hc hg hm (prg_1 hg2 hm2 ha (star_cons _ _ _ hs))) fun σ H Q ⟨F, β, h, en, sm, gd, se, post⟩ => ?_
  have e0 : kBi .lrng1 (kCons d kNil) en h = (d en h).bind fun r h => ofO (bLrng1 [r] h) h := by
    unfold kBi kCons kNil
    cases d en h <;> rfl
  rw [e0] at post
  refine bindE sm gd se post fun r v F1 β1 H1 h1 sm1 st1 gd1 se1 rr1 post1 => ?_
  unfold ofO at post1
  split at post1
  case h_2 => exact post1.elim
  rename_i r' e'
  unfold bLrng1 at e'
  split at e'
  case h_2 => cases e'
  rename_i j ej
  cases ej
  split at e'
  case isFalse => cases e'
  rename_i hj
  cases e'
  have hsl := sizeLine_eq
  exact ⟨j, rr1, ⟨by omega, by omega, hj.1, hj.2.1, by omega⟩, new_lst sm1 (VRs.rg 0 j) fun v F' H' ps rr => post1 v F' β1 H' ps.sm ps.step (gd1.more ps.ff) rr⟩
theorem pd_lrng2 {b : Expr} {db : Den} (hc : X.calm = true) (hg : Gl X "list") (hm : X.mg "list" = none) (hg2 : Gl X "range") (hm2 : X.mg "range" = none) (ha : PE X a (tD X.K d)) (hb : PE X b (tD X.K db)) (hs : isStar a = false) (hs2 : isStar b = false) :
    PE X (.Call (.Name "list" p) [.Call (.Name "range" p2) [a, b] [] q] [] pos) (tD X.K (kBi .lrng2 (kCons d (kCons db kNil)))) := by
  refine PE_weak (pe_listRg hc hg hm (prg_2 hg2 hm2 ha hb (star_cons _ _ _ hs) (star_cons _ _ _ hs2) (star_back _ _ _ (by rw [List.all_cons, hs2]; rfl)))) fun σ H Q ⟨F, β, h, en, sm, gd, se, post⟩ => ?_
  have e0 : kBi .lrng2 (kCons d (kCons db kNil)) en h = (d en h).bind fun r h => (db en h).bind fun r2 h => ofO (bLrng2 [r, r2] h) h := by
    unfold kBi kCons kNil
    cases d en h with
    | ok r h1 => simp only [Out.bind]; cases db en h1 <;> rfl
    | _ => rfl
  rw [e0] at post
  refine bindE sm gd se post fun r v F1 β1 H1 h1 sm1 st1 gd1 se1 rr1 post1 => ?_
  refine bindE sm1 gd1 se1 post1 fun r2 v2 F2 β2 H2 h2 sm2 st2 gd2 se2 rr2 post2 => ?_
  unfold ofO at post2
  split at post2
  case h_2 => exact post2.elim
  rename_i r' e'
  unfold bLrng2 at e'
  split at e'
  case h_2 => cases e'
  rename_i i j ej
  cases ej
  split at e'
  case isFalse => cases e'
  rename_i hj
  cases e'
  have hsl := sizeLine_eq
  exact ⟨i, j, rr1, rr2, ⟨hj.1, hj.2.1, hj.2.2.1, hj.2.2.2.1, by omega⟩, new_lst sm2 (VRs.rg i j) fun v F' H' ps rr => post2 v F' β2 H' ps.sm ps.step (gd2.more ps.ff) rr⟩
end
end MP
end

section
set_option Elab.async false
set_option linter.all false
set_option maxRecDepth 100000
set_option maxHeartbeats 4000000
namespace MP
open PySem PySem.Spec L2 PyProof.Rows
section
variable {K : Kf} {F F' H H' : Hp} {β β' : List Addr} {h h' : Hh}
mutual
theorem VR.low : ∀ {d : D} {v : V}, VR K F β d v → lowD β.length d = true
  | .non, _, _ => rfl
  | .bl _, _, _ => rfl
  | .int _, _, _ => rfl
  | .str _, _, _ => rfl
  | .rp _, _, _ => rfl
  | .tup ds, _, ⟨_, _, _, _, w⟩ => by unfold lowD; exact VRs.low w
  | .lst ds, _, ⟨_, _, _, _, w⟩ => by unfold lowD; exact VRs.low w
  | .ref n, _, ⟨_, q, _⟩ => by unfold lowD; exact decide_eq_true (List.getElem?_eq_some_iff.mp q).1
theorem VRs.low : ∀ {ds : List D} {vs : List V}, VRs K F β ds vs → lowAll β.length ds = true
  | [], _, _ => rfl
  | d :: ds, _, ⟨_, _, _, w1, w2⟩ => by unfold lowAll; rw [VR.low w1, VRs.low w2]; rfl
end
/-- a new list of the heap -/
theorem grow {F0 : Hp} {β0 : List Addr} {H₀ : Hp} (sm0 : Same F0 H₀) (st : Step F0 β0 H₀ F β H) (sm : Same F H) (gd : Good K F β h) {a : Addr} {vs : List V} {ds : List D} (n0 : H₀ a = none) (f : F a = none) (q : H a = some (.lst vs)) (w : VRs K F β ds vs) :
    Same (upd F a (.lst vs)) H ∧ Step F0 β0 H₀ (upd F a (.lst vs)) (β ++ [a]) H ∧ Good K (upd F a (.lst vs)) (β ++ [a]) (h ++ [.lst ds]) := by
  obtain ⟨k1, k2, k3, na, x⟩ := know sm0 st sm gd n0 f q
  have x2 : Ext F β (upd F a (.lst vs)) (β ++ [a]) := by
    refine ⟨fun n b z => ?_, fun b o z m => ⟨k1 b o z, fun t => ?_⟩⟩
    · rw [List.getElem?_append_left (List.getElem?_eq_some_iff.mp z).1]; exact z
    · rcases List.mem_append.mp t with t | t
      · exact m t
      · rw [List.mem_singleton] at t; subst t; rw [f] at z; cases z
  have f0 : F0 a = none := sm_none sm0 n0
  refine ⟨k2, ⟨?_, fun b o z => ?_, k3.hid⟩, ⟨?_, ?_, fun n b o e1 e2 => ?_⟩⟩
  · obtain ⟨γ, e, g⟩ := st.gm
    refine ⟨γ ++ [a], by rw [e, List.append_assoc], fun b m => ?_⟩
    rcases List.mem_append.mp m with m | m
    · exact g b m
    · rw [List.mem_singleton] at m; subst m; exact ⟨f0, n0⟩
  · exact k3.kp b o z
  · rw [List.nodup_append]
    exact ⟨gd.nd, by simp, fun b hb c hc e => by rw [List.mem_singleton] at hc; subst hc; subst e; exact na hb⟩
  · rw [List.length_append, List.length_append, gd.len]; rfl
  · by_cases hn : n < β.length
    · rw [List.getElem?_append_left hn] at e1
      rw [List.getElem?_append_left (by rw [← gd.len]; exact hn)] at e2
      match o, gd.ob n b o e1 e2 with
      | .lst es, ⟨ws, f', w', l⟩ => exact ⟨ws, k1 _ _ f', VRs.ext x2 es ws w', l⟩
    · have hn2 : n = β.length := by
        have := (List.getElem?_eq_some_iff.mp e1).1
        rw [List.length_append, List.length_singleton] at this
        omega
      subst hn2
      rw [List.getElem?_append_right (Nat.le_refl _)] at e1
      rw [gd.len, List.getElem?_append_right (Nat.le_refl _)] at e2
      simp only [Nat.sub_self, List.getElem?_cons_zero, Option.some.injEq] at e1 e2
      subst e1 e2
      exact ⟨vs, upd_same, VRs.ext x2 ds vs w, VRs.low w⟩
/-- a list of the heap changes -/
theorem change {F0 : Hp} {β0 : List Addr} {H₀ : Hp} (sm0 : Same F0 H₀) (st : Step F0 β0 H₀ F β H) (sm : Same F H) (gd : Good K F β h) {n : Nat} {a : Addr} {vs xs : List V} {ds : List D} (e : β[n]? = some a) (f : F a = some (.lst xs)) (w : VRs K F β ds vs) (l : lowAll n ds = true) :
    Same (upd F a (.lst vs)) (upd H a (.lst vs)) ∧ Step F0 β0 H₀ (upd F a (.lst vs)) β (upd H a (.lst vs)) ∧ Good K (upd F a (.lst vs)) β (h.set n (.lst ds)) ∧ Ext F β (upd F a (.lst vs)) β := by
  have hm : a ∈ β := List.mem_of_getElem? e
  have x2 : Ext F β (upd F a (.lst vs)) β := ⟨fun _ _ z => z, fun b o z m => ⟨by rw [upd_ne (fun t : b = a => m (t ▸ hm))]; exact z, m⟩⟩
  refine ⟨sm_upd sm, Step.trans sm0 st ⟨⟨[], by simp, fun _ z => by simp at z⟩, fun b o z => ?_, fun b o z y => ?_⟩, ⟨gd.nd, by rw [List.length_set]; exact gd.len, fun m b o e1 e2 => ?_⟩, x2⟩
  · by_cases t : b = a
    · subst t
      exact ⟨⟨_, upd_same⟩, fun m => absurd hm m⟩
    · rw [upd_ne t]
      exact ⟨⟨o, z⟩, fun _ => z⟩
  · have t : b ≠ a := fun t => by subst t; rw [f] at z; cases z
    rw [upd_ne t, upd_ne t]
    exact ⟨z, y⟩
  · by_cases t : m = n
    · subst t
      rw [e] at e1
      cases e1
      have hl : m < h.length := by
        have := (List.getElem?_eq_some_iff.mp e).1
        rw [gd.len] at this; exact this
      rw [List.getElem?_set_self hl] at e2
      cases e2
      exact ⟨vs, upd_same, VRs.ext x2 ds vs w, l⟩
    · rw [List.getElem?_set_ne (fun z => t z.symm)] at e2
      have hb : b ≠ a := fun z => by
        subst z
        have h2 := List.getElem?_eq_some_iff.mp e1
        exact t ((List.getElem?_inj h2.1 gd.nd).mp (e1.trans e.symm))
      match o, gd.ob m b o e1 e2 with
      | .lst es, ⟨ws, f', w', l'⟩ => exact ⟨ws, by rw [upd_ne hb]; exact f', VRs.ext x2 es ws w', l'⟩
end
section
variable {X : Cx} {pos p p2 q apos cpos : Pos} {x y name : Str} {a e o : Expr} {es : List Expr} {d dO : Den} {ds : DenL}
theorem pd_Al (he : PE X e (tD X.K d)) : PE X e (tD X.K (kAl d)) := by
  refine PE_weak he fun σ H Q ⟨F, β, h, en, sm, gd, se, post⟩ => ⟨F, β, h, en, sm, gd, se, ?_⟩
  unfold kAl at post
  cases hd : d en h with
  | er e h => rw [hd] at post; exact post
  | no => rw [hd] at post; exact post
  | ok r h1 =>
    rw [hd] at post
    simp only [Out.bind] at post
    intro v F1 β1 H1 sm1 st1 gd1 rr1
    unfold alR at post
    split at post
    · rename_i ds
      obtain ⟨a, vs, rfl, n0, f, q, w⟩ := rr1
      obtain ⟨k1, k2, k3⟩ := grow sm st1 sm1 gd1 n0 f q w
      exact post (.ref a) _ _ H1 k1 k2 k3 ⟨a, by rw [← gd1.len, List.getElem?_append_right (Nat.le_refl _)]; simp, rfl⟩
    · exact post.elim

/-! ### methods -/
def rM (K : Kf) (m : ME) : V → List V → Hp → VK → Prop := fun x vs H Q => ∃ F β h F0 β0 H₀ rs n ds dsx r h', Same F0 H₀ ∧ Step F0 β0 H₀ F β H ∧ Same F H ∧ Good K F β h ∧ VR K F β (.ref n) x ∧ RRs K F β H₀ H rs vs ∧ (flA rs vs).Nodup ∧ h[n]? = some (.lst ds) ∧ mD m n ds rs h = .ok r h' ∧ dsx = ds ∧
  ∀ v F' H', Same F' H' → Step F0 β0 H₀ F' β H' → Good K F' β h' → RR K F' β H₀ H' r v → Q v H'
theorem m_append : MtM X "list.append" (rM X.K .append) := by
  intro pins s σ H x vs v us Q I rx rv ⟨F, β, h, F0, β0, H₀, rs, n, ds, _, r, h', sm0, st, sm, gd, ⟨a, ea, ex⟩, rr, nd, hn, e, _, q⟩
  subst ex
  have e : mAppend n ds rs h = .ok r h' := e
  unfold mAppend at e
  split at e
  case h_2 => cases e
  rename_i y
  split at e
  case isFalse => cases e
  rename_i hc
  cases e
  obtain ⟨w, ws, rfl, r1, e2⟩ := rr
  cases e2
  obtain ⟨xs, f, wv, lo⟩ := gd.at_ ea hn
  obtain ⟨F2, k1, k2, k3, k4, _⟩ := freeze1 sm0 st sm gd r1
  have x2 : Ext F β F2 β := ⟨fun _ _ z => z, fun b o z m => ⟨k1 b o z, m⟩⟩
  obtain ⟨c1, c2, c3, c4⟩ := change sm0 k3 k2 (gd.more k1) ea (k1 _ _ f) ((VRs.ext x2 _ _ wv).app (VRs.one k4)) (by
    have hap : ∀ (l m : List D), lowAll n l = true → lowAll n m = true → lowAll n (l ++ m) = true := fun l m hl hm => by
      induction l with
      | nil => exact hm
      | cons z r ih => unfold lowAll at hl; rw [Bool.and_eq_true] at hl; show (lowD n z && lowAll n (r ++ m)) = true; rw [hl.1, ih hl.2]; rfl
    exact hap _ _ lo (by unfold lowAll lowAll; rw [hc.1]; rfl))
  exact mt_append pins s σ H _ _ v us Q I rx rv ⟨a, xs, w, rfl, rfl, sm _ _ f, by rw [wv.len]; exact hc.2, q _ _ _ c1 c2 c3 rfl⟩
theorem mt_extendAny {l b : Addr} {xs zs : List V} {Q : VK} {pins : List (Addr × Obj)} {s : Shared} {σ : L2.St} {H : Hp} (I : L2.Inv X pins σ H s) (hH : H l = some (.lst xs)) (hB : Rd H b (.lst zs)) (hz : xs.length + zs.length ≤ sizeLine) (q : Q .non (upd H l (.lst (xs ++ zs)))) :
    wpAny (model X.prog X.w) X.A (call (.builtin "list.extend") [.ref l, .ref b]) (EP X pins σ Q) X.xe s := by
  obtain ⟨z, its, n, r, hl, e⟩ := I.lstM hH
  obtain ⟨z2, its2, n2, r2, hl2, e2⟩ := lst_obj I hB
  have hsz : its.toArray.size + its2.toArray.size ≤ sizeLine := by rw [List.size_toArray, List.size_toArray]; omega
  have hlong : ¬ (!its.toArray.isEmpty && Builtin.List.listTooLong (its.toArray.size + its2.toArray.size)) = true := by
    rw [notLongL hsz, Bool.and_false]
    exact Bool.false_ne_true
  refine call_meets F.slot_list_extend ⟨_, e, rfl⟩ F.entry_list_extend (F.args_list_extend_2 _ _)
    (AutoSeq1.list_extend_list_list_0 l its.toArray n b its2.toArray n2 hlong (by rw [List.size_toArray]; omega) (by omega)) ⟨e, e2, ?_⟩
  refine ⟨.non, _, I.lset (its' := its ++ its2) hH e (by simp) (r.append r2) ?_, rfl, q⟩
  rw [List.length_append]
  omega
theorem lowAll_app {n : Nat} : ∀ {l m : List D}, lowAll n l = true → lowAll n m = true → lowAll n (l ++ m) = true
  | [], _, _, hm => hm
  | z :: r, m, hl, hm => by
    unfold lowAll at hl
    rw [Bool.and_eq_true] at hl
    show (lowD n z && lowAll n (r ++ m)) = true
    rw [hl.1, lowAll_app hl.2 hm]; rfl
theorem lowAll_sub {n : Nat} {l m : List D} (s : m.Sublist l) (h : lowAll n l = true) : lowAll n m = true := by
  induction s with
  | slnil => rfl
  | cons a _ ih => unfold lowAll at h; rw [Bool.and_eq_true] at h; exact ih h.2
  | cons_cons a _ ih => unfold lowAll at h ⊢; rw [Bool.and_eq_true] at h; rw [h.1, ih h.2]; rfl
theorem m_extend : MtM X "list.extend" (rM X.K .extend) := by
  intro pins s σ H x vs v us Q I rx rv ⟨F, β, h, F0, β0, H₀, rs, n, ds, _, r, h', sm0, st, sm, gd, ⟨a, ea, ex⟩, rr, nd, hn, e, _, q⟩
  subst ex
  have e : mExtend n ds rs h = .ok r h' := e
  unfold mExtend at e
  split at e
  case h_2 => cases e
  rename_i y
  split at e
  case h_2 => cases e
  rename_i zs hzs
  split at e
  case isFalse => cases e
  rename_i hc
  cases e
  obtain ⟨w, rfl, r1⟩ := rv_of1 rr rfl
  obtain ⟨b, ys, rfl, q1, w2⟩ := viewL_of sm gd r1 hzs
  obtain ⟨xs, f, wv, lo⟩ := gd.at_ ea hn
  obtain ⟨c1, c2, c3, c4⟩ := change sm0 st sm gd ea f (wv.app w2) (lowAll_app lo hc.1)
  cases rx
  rw [Vals.ref1 rv]
  exact mt_extendAny I (sm _ _ f) q1 (by rw [wv.len, w2.len]; exact hc.2) (q _ _ _ c1 c2 c3 rfl)
theorem m_pop : MtM X "list.pop" (rM X.K .pop) := by
  intro pins s σ H x vs v us Q I rx rv ⟨F, β, h, F0, β0, H₀, rs, n, ds, _, r, h', sm0, st, sm, gd, ⟨a, ea, ex⟩, rr, nd, hn, e, _, q⟩
  subst ex
  have e : mPop n ds rs h = .ok r h' := e
  unfold mPop at e
  split at e
  case h_2 => cases e
  split at e
  case h_2 => cases e
  rename_i y hy
  cases e
  cases rr
  obtain ⟨xs, f, wv, lo⟩ := gd.at_ ea hn
  obtain ⟨z, hz, rz⟩ := wv.get hy
  obtain ⟨c1, c2, c3, c4⟩ := change sm0 st sm gd ea f wv.dropLast (lowAll_sub (List.dropLast_sublist ds) lo)
  exact mt_pop pins s σ H _ _ v us Q I rx rv ⟨a, xs, z, rfl, rfl, sm _ _ f, by rw [wv.len]; exact hz, q z _ _ c1 c2 c3 (VR.ext c4 y z rz)⟩
theorem m_popAt : MtM X "list.pop" (rM X.K .popAt) := by
  intro pins s σ H x vs v us Q I rx rv ⟨F, β, h, F0, β0, H₀, rs, n, ds, _, r, h', sm0, st, sm, gd, ⟨a, ea, ex⟩, rr, nd, hn, e, _, q⟩
  subst ex
  have e : mPopAt n ds rs h = .ok r h' := e
  unfold mPopAt at e
  split at e
  case h_2 => cases e
  rename_i i _
  split at e
  case isFalse => cases e
  rename_i hc
  unfold popAt at e
  split at e
  case h_2 => cases e
  rename_i k hk
  split at e
  case h_2 => cases e
  rename_i y hy
  cases e
  obtain ⟨w, rfl, r1⟩ := rv_of1 rr rfl
  cases (show w = .int i from r1)
  obtain ⟨xs, f, wv, lo⟩ := gd.at_ ea hn
  obtain ⟨z, hz, rz⟩ := wv.get hy
  obtain ⟨c1, c2, c3, c4⟩ := change sm0 st sm gd ea f (wv.erase k) (lowAll_sub (List.eraseIdx_sublist ds k) lo)
  exact mt_popAt pins s σ H _ _ v us Q I rx rv ⟨a, xs, i, k, z, rfl, rfl, sm _ _ f, hc.1, hc.2, by rw [wv.len]; exact hk, hz, q z _ _ c1 c2 c3 (VR.ext c4 y z rz)⟩
theorem methD_ref {m : ME} {r0 : R} {rs : List R} {h : Hh} (hne : methD m r0 rs h ≠ .no) : ∃ n ds', r0 = .d (.ref n) ∧ h[n]? = some (.lst ds') ∧ methD m r0 rs h = mD m n ds' rs h := by
  unfold methD at hne ⊢
  split at hne
  · rename_i n
    split at hne
    · rename_i ds' hn
      exact ⟨n, ds', rfl, hn, rfl⟩
    · exact absurd rfl hne
  · exact absurd rfl hne
/-- o.m(e) -/
theorem meth_weak {m : ME} : ∀ σ H Q, tD X.K (kMeth m dO ds) σ H Q → tBM X.K "list" (rM X.K m) (tD X.K dO) (tL X.K ds) σ H Q := fun σ H Q ⟨F, β, h, en, sm, gd, se, post⟩ => by
  refine ⟨F, β, h, en, sm, gd, se, ?_⟩
  unfold kMeth at post
  cases hd : dO en h with
  | er e h => rw [hd] at post; exact post
  | no => rw [hd] at post; exact post
  | ok r0 h1 =>
    rw [hd] at post
    intro v F1 β1 H1 sm1 st1 gd1 rr1
    have post : PostE X.K F β H ((ds en h1).bind fun xs h => methD m r0 xs h) Q := post
    cases hds : ds en h1 with
    | er e h => rw [hds] at post; exact post.elim
    | no => rw [hds] at post; exact post.elim
    | ok rs h2 =>
      rw [hds] at post
      have post : PostE X.K F β H (methD m r0 rs h2) Q := post
      have hr := methD_ref (m := m) (r0 := r0) (rs := rs) (h := h2) fun z => by rw [z] at post; exact post
      obtain ⟨n, ds', rfl, hn, em⟩ := hr
      rw [em] at post
      obtain ⟨a, ea, ex⟩ := id rr1
      have hm : ∃ vs, H1 a = some (.lst vs) := by
        obtain ⟨_, vs, _, _, _, f, _⟩ := gd1.mem (List.mem_of_getElem? ea)
        exact ⟨vs, sm1 _ _ f⟩
      refine ⟨?_, F1, β1, h1, en, sm1, gd1, se.ext st1.ext, ?_⟩
      · subst ex
        obtain ⟨vs, hv⟩ := hm
        exact .inl ⟨rfl, vs, .inl (.inl hv)⟩
      · rw [hds]
        intro vs F2 β2 H2 sm2 st2 gd2 rr2 nd2
        cases hmd : mD m n ds' rs h2 with
        | er e h => rw [hmd] at post; exact post.elim
        | no => rw [hmd] at post; exact post.elim
        | ok r3 h3 =>
          rw [hmd] at post
          exact ⟨F2, β2, h2, F, β, H, rs, n, ds', ds', r3, h3, sm, Step.trans sm st1 st2, sm2, gd2, VR.ext st2.ext _ _ rr1, rr2.back sm st1 sm1, nd2, hn, hmd, rfl, fun v F' H' a b c d => post v F' β2 H' a b c d⟩
def nameOf : ME → Str
  | .append => "append"
  | .extend => "extend"
  | .pop => "pop"
  | .popAt => "pop"
theorem few (cpos : Pos) : ∀ es : List Expr, es.all (fun e => !isStar e) = true → (backTo cpos (starEach es X.env)).all (fun x => !x.1) = true
  | [], _ => rfl
  | e :: es, h => by
    rw [List.all_cons, Bool.and_eq_true] at h
    rw [star_cons e es X.env (by simpa using h.1)]
    show (true && (backTo cpos (starEach es X.env)).all (fun x => !x.1)) = true
    rw [few cpos es h.2]
    rfl
theorem pd_Meth {m : ME} {id : String} (pa : PlainAttrs "list") (slot : Slot "list" name id) (hty : typeOf (.builtin id) = pure (.type "method_descriptor")) (hm : MtM X id (rM X.K m)) (ho : PE X o (tD X.K dO)) (ha : PA X (e :: es) (tL X.K ds))
    (hbase : attributeBase o name X.env (eval o X.env) = eval o X.env) (hline : (apos.endLine == cpos.line) = true) (hs : (e :: es).all (fun e => !isStar e) = true) (hl : (e :: es).length < 30) : PE X (.Call (.Attribute o name apos) (e :: es) [] cpos) (tD X.K (kMeth m dO ds)) := by
  have hs2 := hs
  rw [List.all_cons, Bool.and_eq_true] at hs
  refine PE_weak (pe_bm pa slot hty hm ho ha hbase ?_ hline (star_cons e es X.env (by simpa using hs.1)) (star_back _ X.env es hs.2)) meth_weak
  rw [few cpos _ hs2]
  show (true && (true && decide ((e :: es).length + 0 + 0 < 30))) = true
  rw [show decide ((e :: es).length + 0 + 0 < 30) = true from decide_eq_true hl]
  rfl
theorem pd_Pop (pa : PlainAttrs "list") (slot : Slot "list" "pop" "list.pop") (hty : typeOf (.builtin "list.pop") = pure (.type "method_descriptor")) (ho : PE X o (tD X.K dO))
    (hbase : attributeBase o "pop" X.env (eval o X.env) = eval o X.env) (hline : (apos.endLine == cpos.line) = true) : PE X (.Call (.Attribute o "pop" apos) [] [] cpos) (tD X.K (kMeth .pop dO kNil)) := by
  refine PE_weak (pe_bm0 pa slot hty m_pop ho hbase hline) fun σ H Q z => ?_
  obtain ⟨F, β, h, en, sm, gd, se, post⟩ := meth_weak σ H Q z
  refine ⟨F, β, h, en, sm, gd, se, ?_⟩
  cases hd : dO en h with
  | er e h => rw [hd] at post; exact post
  | no => rw [hd] at post; exact post
  | ok r h1 =>
    rw [hd] at post
    intro v F1 β1 H1 sm1 st1 gd1 rr1
    obtain ⟨ty, F2, β2, h2, en2, sm2, gd2, se2, post2⟩ := post v F1 β1 H1 sm1 st1 gd1 rr1
    exact ⟨ty, post2 [] F2 β2 H1 sm2 .refl gd2 rfl List.nodup_nil⟩
end
end MP
end

section
set_option Elab.async false
set_option linter.all false
set_option maxRecDepth 100000
set_option maxHeartbeats 4000000
namespace MP
open PySem PySem.Spec L2 PyProof.Rows
/-! ### binding -/
theorem lookup_none : ∀ {l : List (Str × Value)} {k : Str}, k ∉ l.map (·.1) → l.lookup k = none
  | [], _, _ => rfl
  | (n, v) :: r, k, h => by
    rw [List.map_cons, List.mem_cons, not_or] at h
    rw [List.lookup_cons]
    have : (k == n) = false := by simpa using h.1
    rw [this]
    exact lookup_none h.2
theorem loopB (f : Str × Value → List (Str × Value) × List (Str × Value) → Sem (ForInStep (List (Str × Value) × List (Str × Value)))) : ∀ (kw slots : List (Str × Value)), (∀ slots' x, x ∈ kw → slots'.lookup x.1 = none → f x (slots', []) = pure (.yield (slots' ++ [(x.1, x.2)], []))) → (slots.map (·.1) ++ kw.map (·.1)).Nodup →
    forIn kw (slots, []) f = (pure (slots ++ kw, []) : Sem _)
  | [], slots, _, _ => by rw [List.forIn_nil, List.append_nil]
  | x :: r, slots, h, nd => by
    have h0 : slots.lookup x.1 = none := lookup_none fun z => by
      rw [List.nodup_append] at nd
      exact nd.2.2 _ z x.1 (by simp) rfl
    rw [List.forIn_cons, h slots x List.mem_cons_self h0]
    show forIn r (slots ++ [x], []) f = _
    rw [loopB f r (slots ++ [x]) (fun s y hy => h s y (List.mem_cons_of_mem _ hy)) (by simpa using nd)]
    simp
/-- parameters without defaults -/
structure Simple (fd : FuncData) (ps : List Str) : Prop where
  po : fd.params.posonlyargs = []
  ar : fd.params.args.map (·.arg) = ps
  ko : fd.params.kwonlyargs = []
  va : fd.params.vararg = none
  kw : fd.params.kwarg = none
  df : fd.defaults = .none
theorem bind_gen {fd : FuncData} {ps : List Str} {us : List Value} {kw : List (Str × Value)} (S : Simple fd ps)
    (h1 : ∀ k ∈ kw, k.1 ∈ ps) (hnd : ((ps.zip us).map (·.1) ++ kw.map (·.1)).Nodup) (hl : us.length + kw.length = ps.length) (hall : ∀ n ∈ ps, ((ps.zip us ++ kw).lookup n).isSome = true) :
    bindArgs fd ⟨us, kw⟩ = pure (ps.filterMap fun n => ((ps.zip us ++ kw).lookup n).map (n, ·)) := by
  unfold bindArgs
  simp only [S.po, S.ar, S.ko, S.va, S.kw, S.df, List.map_nil, List.nil_append, List.append_nil]
  rw [loopB _ kw (ps.zip us) (fun slots' x hx hn => ?_) hnd]
  · have e1 : ¬ us.length > ps.length := by omega
    have e2 : (ps.take (ps.length - ([] : List Value).length)).filter (fun n => ((ps.zip us ++ kw).lookup n).isNone) = [] := by
      rw [List.filter_eq_nil_iff]
      intro n hn
      have := hall n (List.mem_of_mem_take hn)
      cases hh : (ps.zip us ++ kw).lookup n with
      | none => rw [hh] at this; cases this
      | some v => simp
    show (do
      let __do_lift ← seqItems? Value.none
      _) = _
    show (if (decide (us.length > ps.length) && Option.isNone none) = true then _ else _) = _
    rw [if_neg (by simpa using e1)]
    have e4 : List.drop (((none : Option (Array Value)).getD #[]).toList.length - ps.length) ((none : Option (Array Value)).getD #[]).toList = [] := by simp
    simp only [e4]
    rw [e2, if_neg (by simp)]
    have e3 : (ps.drop (ps.length - ([] : List Value).length)).zip ([] : List Value) = [] := by simp
    rw [e3]
    rfl
  · have c : ps.contains x.1 = true := by simpa using h1 x hx
    rw [c, hn]
    rfl
/-- the picked places -/
def pick {α : Type} (l : List α) (pm : List Nat) : List α := pm.filterMap fun i => l[i]?
theorem zip_at : ∀ {ns : List Str} {vs : List Value} {i : Nat} {x : Str} {v : Value}, ns.Nodup → ns[i]? = some x → vs[i]? = some v → (ns.zip vs).lookup x = some v
  | n :: ns, w :: vs, 0, x, v, _, h1, h2 => by
    cases (show n = x by simpa using h1)
    cases (show w = v by simpa using h2)
    rw [List.zip_cons_cons, List.lookup_cons]
    simp
  | n :: ns, w :: vs, i + 1, x, v, nd, h1, h2 => by
    rw [List.nodup_cons] at nd
    have h1 : ns[i]? = some x := by simpa using h1
    have h2 : vs[i]? = some v := by simpa using h2
    rw [List.zip_cons_cons, List.lookup_cons]
    have : (x == n) = false := beq_eq_false_iff_ne.mpr fun e => nd.1 (e ▸ List.mem_of_getElem? h1)
    rw [this]
    exact zip_at nd.2 h1 h2
theorem pick_zip {ns : List Str} {vs : List Value} (nd : ns.Nodup) (hl : ns.length = vs.length) : ∀ {pm : List Nat} {ps : List Str}, pm.map (ns[·]?) = ps.map some → (ps.filterMap fun n => ((ns.zip vs).lookup n).map (n, ·)) = ps.zip (pick vs pm) ∧ ∀ n ∈ ps, ((ns.zip vs).lookup n).isSome = true
  | [], [], _ => ⟨rfl, by simp⟩
  | i :: pm, p :: ps, h => by
    simp only [List.map_cons, List.cons.injEq] at h
    have hi := (List.getElem?_eq_some_iff.mp h.1).1
    have hv : vs[i]? = some (vs[i]'(by omega)) := List.getElem?_eq_getElem (by omega)
    obtain ⟨h1, h2⟩ := pick_zip nd hl h.2
    have hz := zip_at nd h.1 hv
    refine ⟨?_, fun n hn => ?_⟩
    · rw [List.filterMap_cons, hz]
      show (p, vs[i]) :: _ = _
      rw [h1]
      unfold pick
      rw [List.filterMap_cons, hv]
      rfl
    · rcases List.mem_cons.mp hn with z | z
      · rw [z, hz]; rfl
      · exact h2 n z
theorem zip_take : ∀ (us : List Value) (ps : List Str), us.length ≤ ps.length → ps.zip us = (ps.take us.length).zip us ∧ (ps.zip us).map (·.1) = ps.take us.length
  | [], ps, _ => by simp
  | u :: r, [], h => by simp at h
  | u :: r, p :: q, h => by
    obtain ⟨h1, h2⟩ := zip_take r q (by simpa using h)
    rw [List.zip_cons_cons, List.length_cons, List.take_succ_cons, List.zip_cons_cons, ← h1, List.map_cons, h2]
    exact ⟨rfl, rfl⟩
/-- positional values, then keywords -/
def pmOk (ps : List Str) (n : Nat) (ks : List Str) (pm : List Nat) : Bool := decide (n ≤ ps.length) && decide ((ps.take n ++ ks).Nodup) && decide (n + ks.length = ps.length) && (decide (pm.map ((ps.take n ++ ks)[·]?) = ps.map some) && ks.all fun k => decide (k ∈ ps))
theorem binds_of {fd : FuncData} {ps ks : List Str} {us ws : List Value} {pm : List Nat} (S : Simple fd ps) (h : pmOk ps us.length ks pm = true) (hw : ws.length = ks.length) (s : Shared) : BindsTo s fd ⟨us, ks.zip ws⟩ (ps.zip (pick (us ++ ws) pm)) := by
  unfold pmOk at h
  simp only [Bool.and_eq_true, decide_eq_true_eq] at h
  obtain ⟨⟨⟨h1, h2⟩, h3⟩, h4, h5⟩ := h
  have ez : ps.zip us ++ ks.zip ws = (ps.take us.length ++ ks).zip (us ++ ws) := by
    rw [List.zip_append (by rw [List.length_take]; omega)]
    congr 1
    exact (zip_take us ps h1).1
  have hlen : (ps.take us.length ++ ks).length = (us ++ ws).length := by
    rw [List.length_append, List.length_append, List.length_take]; omega
  obtain ⟨p1, p2⟩ := pick_zip h2 hlen h4
  rw [← ez] at p1 p2
  have e1 : (ps.zip us).map (·.1) = ps.take us.length := by
    exact (zip_take us ps h1).2
  have e2 : (ks.zip ws).map (·.1) = ks := by
    rw [List.map_fst_zip]; omega
  refine .of_eq ?_
  rw [bind_gen S (fun k hk => ?_) (by rw [e1, e2]; exact h2) (by rw [List.length_zip]; omega) p2, p1]
  have := (List.of_mem_zip hk).1
  exact of_decide_eq_true (List.all_eq_true.mp h5 _ this)
end MP
end

section
set_option Elab.async false
set_option linter.all false
set_option maxRecDepth 100000
set_option maxHeartbeats 4000000
namespace MP
open PySem PySem.Spec L2 PyProof.Rows
/-! ### a call that sees no list of the heap -/
section
variable {K : Kf} {F F' H H' : Hp} {β β' : List Addr} {h h' : Hh}
open Classical in
/-- all but the heap's lists -/
noncomputable def less (F : Hp) (β : List Addr) : Hp := fun a => if a ∈ β then none else F a
open Classical in
noncomputable def both (F F' : Hp) (β : List Addr) : Hp := fun a => if a ∈ β then F a else F' a
theorem less_in {a : Addr} (m : a ∈ β) : less F β a = none := by unfold less; rw [if_pos m]
theorem less_out {a : Addr} (m : a ∉ β) : less F β a = F a := by unfold less; rw [if_neg m]
theorem both_in {a : Addr} (m : a ∈ β) : both F F' β a = F a := by unfold both; rw [if_pos m]
theorem both_out {a : Addr} (m : a ∉ β) : both F F' β a = F' a := by unfold both; rw [if_neg m]
theorem Rd.less {a : Addr} {u : HO} (m : a ∉ β) (r : Rd F a u) : Rd (less F β) a u := by
  rcases r with r | ⟨o, r⟩
  · exact .inl (by rw [less_out m]; exact r)
  · exact .inr ⟨o, by rw [less_out m]; exact r⟩
mutual
theorem VR.less : ∀ (d : D) (v : V), VR K F β d v → lowD 0 d = true → VR K (less F β) [] d v
  | .non, _, h, _ => h
  | .bl _, _, h, _ => h
  | .int _, _, h, _ => h
  | .str _, _, h, _ => h
  | .rp _, _, h, _ => h
  | .tup ds, _, ⟨a, vs, e1, r, q⟩, l => by
    unfold lowD at l
    refine ⟨a, vs, e1, ?_, VRs.less ds vs q l⟩
    rcases r with ⟨n, r⟩ | r
    · exact .inl ⟨by simp, MP.Rd.less n r⟩
    · exact .inr r
  | .lst ds, _, ⟨a, vs, e1, r, q⟩, l => by
    unfold lowD at l
    exact ⟨a, vs, e1, ⟨by simp, MP.Rd.less r.1 r.2⟩, VRs.less ds vs q l⟩
  | .ref n, _, _, l => by unfold lowD at l; simp at l
theorem VRs.less : ∀ (ds : List D) (vs : List V), VRs K F β ds vs → lowAll 0 ds = true → VRs K (less F β) [] ds vs
  | [], _, h, _ => h
  | d :: ds, _, ⟨v, r, e1, h1, h2⟩, l => by
    unfold lowAll at l
    rw [Bool.and_eq_true] at l
    exact ⟨v, r, e1, VR.less d v h1 l.1, VRs.less ds r h2 l.2⟩
end
mutual
/-- what stands over no list of the heap, stands beside them -/
theorem VR.beside (o : ∀ a u, F a = some u → a ∉ β) (k : ∀ a u, F a = some u → F' a = some u) : ∀ (d : D) (v : V), VR K F [] d v → VR K F' β d v
  | .non, _, h => h
  | .bl _, _, h => h
  | .int _, _, h => h
  | .str _, _, h => h
  | .rp _, _, h => h
  | .tup ds, _, ⟨a, vs, e1, r, q⟩ => by
    refine ⟨a, vs, e1, ?_, VRs.beside o k ds vs q⟩
    rcases r with ⟨_, r⟩ | r
    · rcases r with r | ⟨u, r⟩
      · exact .inl ⟨o _ _ r, .inl (k _ _ r)⟩
      · exact .inl ⟨o _ _ r, .inr ⟨u, k _ _ r⟩⟩
    · exact .inr r
  | .lst ds, _, ⟨a, vs, e1, r, q⟩ => by
    refine ⟨a, vs, e1, ?_, VRs.beside o k ds vs q⟩
    rcases r with ⟨_, r | ⟨u, r⟩⟩
    · exact ⟨o _ _ r, .inl (k _ _ r)⟩
    · exact ⟨o _ _ r, .inr ⟨u, k _ _ r⟩⟩
  | .ref n, _, ⟨a, e, _⟩ => by simp at e
theorem VRs.beside (o : ∀ a u, F a = some u → a ∉ β) (k : ∀ a u, F a = some u → F' a = some u) : ∀ (ds : List D) (vs : List V), VRs K F [] ds vs → VRs K F' β ds vs
  | [], _, h => h
  | d :: ds, _, ⟨v, r, e1, h1, h2⟩ => ⟨v, r, e1, VR.beside o k d v h1, VRs.beside o k ds r h2⟩
end
theorem pure_call {cl : Cl} {f : Nat} {ds : List D} {Q : VK} (sm : Same F H) (gd : Good K F β h) (l : lowAll 0 ds = true) {r : R} (e : cl f ds [] = .ok r []) (post : PostE K F β H (.ok r h) Q) :
    Same (less F β) H ∧ Good K (less F β) [] [] ∧ PostE K (less F β) [] H (cl f ds []) Q := by
  refine ⟨fun a o z => ?_, ⟨List.nodup_nil, rfl, fun n a o z => by simp at z⟩, ?_⟩
  · by_cases m : a ∈ β
    · rw [less_in m] at z; cases z
    · rw [less_out m] at z; exact sm a o z
  · rw [e]
    intro v F' β' H' sm' st' gd' rr
    have hβ : β' = [] := by have := gd'.len; simpa using this
    subst hβ
    have nofr : ∀ a u, F' a = some u → a ∉ β := fun a u z m => by
      obtain ⟨_, vs, _, _, _, f, _⟩ := gd.mem m
      rw [(st'.hid a _ (less_in m) (sm _ _ f)).1] at z
      cases z
    have kp : ∀ a o, F a = some o → both F F' β a = some o := fun a o z => by
      by_cases m : a ∈ β
      · rw [both_in m]; exact z
      · rw [both_out m]
        exact (st'.kp a o (by rw [less_out m]; exact z)).2 (by simp)
    have x : Ext F β (both F F' β) β := ⟨fun _ _ z => z, fun a o z m => ⟨kp a o z, m⟩⟩
    refine post v (both F F' β) β H' (fun a o z => ?_) ⟨⟨[], by simp, fun _ z => by simp at z⟩, fun a o z => ⟨⟨o, kp a o z⟩, fun _ => kp a o z⟩, fun a o z w => ?_⟩ ⟨gd.nd, gd.len, fun n a o e1 e2 => ?_⟩ ?_
    · by_cases m : a ∈ β
      · rw [both_in m] at z
        exact (st'.hid a o (less_in m) (sm _ _ z)).2
      · rw [both_out m] at z; exact sm' a o z
    · have m : a ∉ β := fun m => by
        obtain ⟨_, vs, _, _, _, f, _⟩ := gd.mem m
        rw [f] at z; cases z
      rw [both_out m]
      exact st'.hid a o (by rw [less_out m]; exact z) w
    · match o, gd.ob n a o e1 e2 with
      | .lst es, ⟨ws, f, w, lo⟩ => exact ⟨ws, kp _ _ f, VRs.ext x es ws w, lo⟩
    · have k2 : ∀ a u, F' a = some u → both F F' β a = some u := fun a u z => by rw [both_out (nofr a u z)]; exact z
      cases r with
      | d y => exact VR.beside nofr k2 y v rr
      | fl es =>
        obtain ⟨a, vs, rfl, n0, f, q, w⟩ := rr
        refine ⟨a, vs, rfl, n0, ?_, q, VRs.beside nofr k2 es vs w⟩
        have m : a ∉ β := fun m => by
          obtain ⟨_, ws, _, _, _, f, _⟩ := gd.mem m
          rw [sm _ _ f] at n0; cases n0
        rw [both_out m]; exact f
end

/-! ### what a def promises -/
def spR (K : Kf) (cl : Cl) (i n : Nat) : Sp := fun vs H Q _ => vs.length = n ∧ ∃ F β h ds, Same F H ∧ Good K F β h ∧ VRs K F β ds vs ∧ PostE K F β H (cl i ds h) Q
structure FnM (P : Program) (w : World) (K : Kf) (mg : Str → Option Value) (base : Heap) (CX : CXT) (k : Nat) (f : Addr) (fd : FuncData) (ps : List Str) (sp : Sp) : Prop where
  len : ∀ vs H Q E, sp vs H Q E → vs.length = ps.length
  run : ∀ (A : Around) (outer : List Env) (s : Shared) (H : Hp) (args : Args) (us : List Value) (vs : List V) (Q : VK) (E : XK), Room k A → A.guards = some [] → Env0 P w K mg base A outer s H → BindsTo s fd args (ps.zip us) → Vals vs us → sp vs H Q E →
    codeAny (model P w) A (.call (.ref f) args) (CR CX outer P w H s Q E) s
def noX : CXT := fun _ _ _ _ _ _ => False
section
variable {X : Cx} {k : Nat} {f : Addr} {fd : FuncData} {ps ks : List Str} {sp : Sp} {x : Str} {p pos kpos : Pos} {e : Expr} {es : List Expr} {kws : List Keyword} {da dk : DenL} {pm : List Nat}
theorem run_m {pins : List (Addr × Obj)} {σ : L2.St} {H : Hp} {s : Shared} {Q : VK} {us ws : List Value} {vs zs : List V} (M : FnM X.prog X.w X.K X.mg X.base noX k f fd ps sp) (hr : Room k X.A) (hg : X.A.guards = some [])
    (S : Simple fd ps) (hpm : pmOk ps us.length ks pm = true) (hw : ws.length = ks.length) (I : L2.Inv X pins σ H s) (r : Vals (pick (vs ++ zs) pm) (pick (us ++ ws) pm)) (h : sp (pick (vs ++ zs) pm) H Q fun _ _ _ => False) :
    wpAny (model X.prog X.w) X.A (call (.ref f) us (ks.zip ws)) (EP X pins σ Q) X.xe s := by
  have go := M.run X.A X.stack s H ⟨us, ks.zip ws⟩ (pick (us ++ ws) pm) _ Q _ hr hg I.env0 (binds_of S hpm hw s) r h
  refine wpAny_call (codeAny_mono go fun o s' hq => ?_)
  match o, hq with
  | .ok (.ret u), hq => exact I.after hq
theorem vals_pick {xs : List V} {us : List Value} (r : Vals xs us) : ∀ pm : List Nat, Vals (pick xs pm) (pick us pm)
  | [] => .nil
  | i :: pm => by
    unfold pick
    rw [List.filterMap_cons, List.filterMap_cons]
    cases hx : xs[i]? with
    | none =>
      have : us[i]? = none := by rw [List.getElem?_eq_none_iff] at hx ⊢; rw [← r.length]; exact hx
      rw [this]
      exact vals_pick r pm
    | some v =>
      obtain ⟨u, hu, rv⟩ := r.get hx
      rw [hu]
      exact .cons rv (vals_pick r pm)
theorem vrs_pick {K : Kf} {F : Hp} {β : List Addr} {rs : List R} {vs : List V} (w : VRs K F β (rs.map R.toD) vs) : ∀ {pm : List Nat} {zs : List R}, allO (pm.map fun i => rs[i]?) = some zs → VRs K F β (zs.map R.toD) (pick vs pm)
  | [], zs, h => by cases h; exact rfl
  | i :: pm, zs, h => by
    obtain ⟨z, qs, rfl, h1, h2⟩ := allO_cons (show allO (rs[i]? :: pm.map fun i => rs[i]?) = some zs from h)
    obtain ⟨v, hv, wv⟩ := w.get (i := i) (d := z.toD) (by rw [List.getElem?_map, h1]; rfl)
    unfold pick
    rw [List.filterMap_cons, hv]
    exact ⟨v, _, rfl, wv, vrs_pick w h2⟩
theorem call_sp {cl : Cl} {i n : Nat} {K : Kf} {F F0 H H₀ : Hp} {β β0 : List Addr} {h : Hh} {rs : List R} {zs : List R} {vs : List V} {Q : VK} {E : XK} (sm0 : Same F0 H₀) (st : Step F0 β0 H₀ F β H) (sm : Same F H) (gd : Good K F β h) (rr : RRs K F β H₀ H rs vs) (nd : (flA rs vs).Nodup)
    (hz : allO (pm.map fun i => rs[i]?) = some zs) (hlen : ∀ vs H Q E, spR K cl i n vs H Q E → vs.length = n) (hn : (pick vs pm).length = n) (post : PostE K F0 β0 H₀ (callD cl i (zs.map R.toD) h) Q) : spR K cl i n (pick vs pm) H Q E := by
  refine ⟨hn, ?_⟩
  obtain ⟨F2, k1, k2, k3, k4⟩ := freezeAll sm0 st sm gd rr nd
  have w := vrs_pick k4 hz
  have gd2 := gd.more k1
  have post := PostE.shift sm0 k3 k2 post
  unfold callD at post
  split at post
  · rename_i hl
    split at post
    · rename_i r e
      obtain ⟨a1, a2, a3⟩ := pure_call (cl := cl) (f := i) k2 gd2 hl e post
      exact ⟨less F2 β, [], [], zs.map R.toD, a1, a2, VRs.less _ _ w hl, a3⟩
    · exact post.elim
    · exact ⟨F2, β, h, zs.map R.toD, k2, gd2, w, post⟩
  · exact ⟨F2, β, h, zs.map R.toD, k2, gd2, w, post⟩
def kwNames (kws : List Keyword) : List Str := kws.filterMap fun k => k.arg
def kwAll (kws : List Keyword) : Bool := kws.all fun k => k.arg.isSome
theorem kw_all (pos : Pos) : ∀ kws : List Keyword, kwAll kws = true → (backToKw pos (keywordEach kws X.env)).all (·.1.isSome) = true ∧ (backToKw pos (keywordEach kws X.env)).any (·.1.isNone) = false ∧ (backToKw pos (keywordEach kws X.env)).filterMap (·.1) = kwNames kws
  | [], _ => ⟨rfl, rfl, rfl⟩
  | ⟨nm, e, kp⟩ :: kws, h => by
    unfold kwAll at h
    rw [List.all_cons, Bool.and_eq_true] at h
    obtain ⟨h1, h2, h3⟩ := kw_all pos kws h.2
    cases nm with
    | none => simp at h
    | some n =>
      refine ⟨?_, ?_, ?_⟩
      · show (true && _) = true
        rw [Bool.true_and]; exact h1
      · show (false || _) = false
        rw [Bool.false_or]; exact h2
      · show n :: (backToKw pos (keywordEach kws X.env)).filterMap (·.1) = n :: kwNames kws
        rw [h3]
theorem pk_Nil : PK X [] (tL X.K kNil) :=
  ⟨fun pos pins s σ H Q I ⟨F, β, h, en, sm, gd, se, post⟩ => pk_nil.run pos pins s σ H Q I (post [] F β H sm .refl gd rfl (by simp [flA]))⟩
theorem cons_weak {d : Den} {ds : DenL} : ∀ σ H Q, tL X.K (kCons d ds) σ H Q → tCons (tD X.K d) (tL X.K ds) σ H Q := fun σ H Q ⟨F, β, h, en, sm, gd, se, post⟩ => by
  refine ⟨F, β, h, en, sm, gd, se, ?_⟩
  have post : PostL X.K F β H ((d en h).bind fun r h => (ds en h).bind fun rs h => .ok (r :: rs) h) Q := post
  cases hd : d en h with
  | er e h => rw [hd] at post; exact post
  | no => rw [hd] at post; exact post
  | ok r h1 =>
    rw [hd] at post
    intro v F1 β1 H1 sm1 st1 gd1 rr1
    refine ⟨F1, β1, h1, en, sm1, gd1, se.ext st1.ext, ?_⟩
    have post : PostL X.K F β H ((ds en h1).bind fun rs h => .ok (r :: rs) h) Q := post
    cases hds : ds en h1 with
    | er e h => rw [hds] at post; exact post
    | no => rw [hds] at post; exact post
    | ok rs h2 =>
      rw [hds] at post
      intro vs F2 β2 H2 sm2 st2 gd2 rr2 nd2
      refine post (v :: vs) F2 β2 H2 sm2 (Step.trans sm st1 st2) gd2 ⟨v, vs, rfl, rr1.step st2, rr2.back sm st1 sm1⟩ ?_
      cases r with
      | d y => exact nd2
      | fl l =>
        obtain ⟨a, ws, rfl, _, _, q, _⟩ := rr1
        show (a :: flA rs vs).Nodup
        rw [List.nodup_cons]
        refine ⟨fun z => ?_, nd2⟩
        have w := (flA_none rr2 a z).1
        rw [q] at w; cases w
theorem pk_Cons {d : Den} {ds : DenL} {nm : Option Str} (he : PE X e (tD X.K d)) (hr : PK X kws (tL X.K ds)) : PK X (⟨nm, e, kpos⟩ :: kws) (tL X.K (kCons d ds)) :=
  ⟨fun pos pins s σ H Q I h => (pk_cons he hr).run pos pins s σ H Q I (cons_weak σ H Q h)⟩
/-- the two lists of a call as one -/
theorem fla_app {K : Kf} {F : Hp} {β : List Addr} {H₀ H1 H : Hp} : ∀ {rs : List R} {vs : List V} {qs : List R} {ws : List V}, RRs K F β H₀ H rs vs → flA (rs ++ qs) (vs ++ ws) = flA rs vs ++ flA qs ws
  | [], _, qs, ws, h => by cases h; rfl
  | .d y :: rs, _, qs, ws, ⟨v, r, e, h1, h2⟩ => by
    subst e
    show flA (rs ++ qs) (r ++ ws) = flA rs r ++ flA qs ws
    exact fla_app (H1 := H1) (qs := qs) (ws := ws) h2
  | .fl y :: rs, _, qs, ws, ⟨v, r, e, h1, h2⟩ => by
    subst e
    obtain ⟨a, us, rfl, _⟩ := h1
    show a :: flA (rs ++ qs) (r ++ ws) = a :: (flA rs r ++ flA qs ws)
    rw [fla_app (H1 := H1) (qs := qs) (ws := ws) h2]
theorem rrs_app {K : Kf} {F : Hp} {β : List Addr} {H₀ H : Hp} : ∀ {rs : List R} {vs : List V} {qs : List R} {ws : List V}, RRs K F β H₀ H rs vs → RRs K F β H₀ H qs ws → RRs K F β H₀ H (rs ++ qs) (vs ++ ws)
  | [], _, qs, ws, h, q => by cases h; exact q
  | r :: rs, _, qs, ws, ⟨v, us, e, h1, h2⟩, q => by subst e; exact ⟨v, us ++ ws, rfl, h1, rrs_app h2 q⟩
theorem fla_stands {K : Kf} {F : Hp} {β : List Addr} {H₀ H : Hp} : ∀ {rs : List R} {vs : List V}, RRs K F β H₀ H rs vs → ∀ a ∈ flA rs vs, ∃ o, H a = some o
  | [], _, q, a, m => by cases q; exact nomatch m
  | .d x :: rs, _, ⟨w, ws, e, _, q2⟩, a, m => by
    subst e
    have m : a ∈ flA rs ws := m
    exact fla_stands q2 a m
  | .fl ds :: rs, _, ⟨w, ws, e, q1, q2⟩, a, m => by
    subst e
    obtain ⟨b, vs, rfl, n, f, q, _⟩ := q1
    rcases List.mem_cons.mp (show a ∈ b :: flA rs ws from m) with z | z
    · subst z; exact ⟨_, q⟩
    · exact fla_stands q2 a z
theorem kwLen : ∀ kws : List Keyword, kwAll kws = true → (kwNames kws).length = kws.length
  | [], _ => rfl
  | q :: r, h => by
    unfold kwAll at h
    rw [List.all_cons, Bool.and_eq_true] at h
    have ih := kwLen r h.2
    unfold kwNames at ih ⊢
    cases hq : q.arg with
    | none => rw [hq] at h; simp at h
    | some n => rw [List.filterMap_cons, hq]; simp [ih]
theorem rrs_len {K : Kf} {F : Hp} {β : List Addr} {H₀ H : Hp} : ∀ {rs : List R} {vs : List V}, RRs K F β H₀ H rs vs → vs.length = rs.length
  | [], _, r => by cases r; rfl
  | y :: l, _, ⟨v, us, e, _, r2⟩ => by subst e; rw [List.length_cons, List.length_cons, rrs_len r2]
theorem allO_len {α : Type} : ∀ {l : List (Option α)} {m : List α}, allO l = some m → m.length = l.length
  | [], _, h => by cases h; rfl
  | o :: l, _, h => by
    obtain ⟨z, qs, rfl, h1, h2⟩ := allO_cons h
    rw [List.length_cons, List.length_cons, allO_len h2]
/-- f(e, .., k = e, ..) -/
theorem call_walk {cl : Cl} {i : Nat} (M : FnM X.prog X.w X.K X.mg X.base noX k f fd ps (spR X.K cl i ps.length)) (hr : Room k X.A) (hgd : X.A.guards = some []) (S : Simple fd ps) (hpm : pmOk ps es.length (kwNames kws) pm = true)
    (hkl : kwAll kws = true) (hla : ∀ en h rs h', da en h = .ok rs h' → rs.length = es.length) (hlk : ∀ en h rs h', dk en h = .ok rs h' → rs.length = kws.length) (hpa : PA X es (tL X.K da)) (hpk : PK X kws (tL X.K dk)) {pins : List (Addr × Obj)} {s : Shared} {σ : L2.St} {H : Hp} {Q : VK} (I : L2.Inv X pins σ H s) (h0 : tD X.K (kCall cl i da dk pm) σ H Q) :
    wpAny (model X.prog X.w) X.A (spliced (backTo pos (starEach es X.env))) (fun us s1 => wpAny (model X.prog X.w) X.A (evalAll ((backToKw pos (keywordEach kws X.env)).map (·.2))) (fun ws s2 => X.K.In s2.heap ∧ wpAny (model X.prog X.w) X.A (call (.ref f) us ((kwNames kws).zip ws)) (EP X pins σ Q) X.xe s2) X.xe s1) X.xe s := by
  obtain ⟨F, β, h, en, sm, gd, se, post⟩ := h0
  unfold kCall at post
  cases hd : da en h with
  | er e h => rw [hd] at post; exact post.elim
  | no => rw [hd] at post; exact post.elim
  | ok rs h1 =>
  rw [hd] at post
  have post : PostE X.K F β H ((dk en h1).bind fun ys h => match allO (pm.map fun i => (rs ++ ys)[i]?) with
    | some zs => callD cl i (zs.map R.toD) h
    | none => .no) Q := post
  cases hk : dk en h1 with
  | er e h => rw [hk] at post; exact post.elim
  | no => rw [hk] at post; exact post.elim
  | ok qs h2 =>
  rw [hk] at post
  have post : PostE X.K F β H (match allO (pm.map fun i => (rs ++ qs)[i]?) with
    | some zs => callD cl i (zs.map R.toD) h2
    | none => .no) Q := post
  split at post
  case h_2 => exact post.elim
  rename_i zs hzs
  refine thn (hpa.run pos pins s σ H (fun vs H1 => ∃ F1 β1, Same F1 H1 ∧ Step F β H F1 β1 H1 ∧ Good X.K F1 β1 h1 ∧ RRs X.K F1 β1 H H1 rs vs ∧ (flA rs vs).Nodup) I ⟨F, β, h, en, sm, gd, se, ?_⟩) fun us s1 ⟨vs, H1, I1, r1, F1, β1, sm1, st1, gd1, rr1, nd1⟩ => ?_
  · rw [hd]
    exact fun vs F' β' H' a b c d e => ⟨F', β', a, b, c, d, e⟩
  refine thn (hpk.run pos pins s1 σ H1 (fun ws H2 => ∃ F2 β2, Same F2 H2 ∧ Step F1 β1 H1 F2 β2 H2 ∧ Good X.K F2 β2 h2 ∧ RRs X.K F2 β2 H1 H2 qs ws ∧ (flA qs ws).Nodup) I1 ⟨F1, β1, h1, en, sm1, gd1, se.ext st1.ext, ?_⟩) fun ws s2 ⟨zs', H2, I2, r2, F2, β2, sm2, st2, gd2, rr2, nd2⟩ => ⟨I2.kIn, ?_⟩
  · rw [hk]
    exact fun vs F' β' H' a b c d e => ⟨F', β', a, b, c, d, e⟩
  have lu : us.length = es.length := by rw [← r1.length, rrs_len rr1, hla _ _ _ _ hd]
  have lw : ws.length = (kwNames kws).length := by
    have hn := kwLen kws hkl
    rw [← r2.length, rrs_len rr2, hlk _ _ _ _ hk, hn]
  have rrA := rrs_app (rr1.step st2) (rr2.back sm st1 sm1)
  have ndA : (flA (rs ++ qs) (vs ++ zs')).Nodup := by
    rw [fla_app (H1 := H1) rr1, List.nodup_append]
    refine ⟨nd1, nd2, fun a ha b hb e => ?_⟩
    subst e
    obtain ⟨o, z⟩ := fla_stands rr1 a ha
    rw [(flA_none rr2 a hb).1] at z
    cases z
  have lz := allO_len hzs
  have lpm : pm.length = ps.length := by
    unfold pmOk at hpm
    simp only [Bool.and_eq_true, decide_eq_true_eq] at hpm
    have := congrArg List.length hpm.2.1
    simpa using this
  have lp : (pick (vs ++ zs') pm).length = ps.length := by
    obtain ⟨F3, _, _, _, k4⟩ := freezeAll sm (Step.trans sm st1 st2) sm2 gd2 rrA ndA
    rw [(vrs_pick k4 hzs).len, List.length_map, lz, List.length_map, lpm]
  exact run_m M hr hgd S (by rw [lu]; exact hpm) lw I2 (vals_pick (r1.append r2) pm) (call_sp sm (Step.trans sm st1 st2) sm2 gd2 rrA ndA hzs M.len lp post)
theorem pd_Call {cl : Cl} {i : Nat} (M : FnM X.prog X.w X.K X.mg X.base noX k f fd ps (spR X.K cl i ps.length)) (hr : Room k X.A) (hgd : X.A.guards = some []) (S : Simple fd ps) (hg : Gl X x) (hm : X.mg x = some (.ref f)) (hk : PySem.W.keepIn X.K (.ref f) = true) (hdb : (x == ("__debug__" : Str)) = false)
    (hpm : pmOk ps es.length (kwNames kws) pm = true) (hst : es.all (fun e => !isStar e) = true)
    (hkl : kwAll kws = true) (hla : ∀ en h rs h', da en h = .ok rs h' → rs.length = es.length) (hlk : ∀ en h rs h', dk en h = .ok rs h' → rs.length = kws.length) (hpa : PA X es (tL X.K da)) (hpk : PK X kws (tL X.K dk)) :
    PE X (.Call (.Name x p) es kws pos) (tD X.K (kCall cl i da dk pm)) := by
  refine ⟨fun pins s σ H Q I h0 => ?_⟩
  refine wpAny_Call_Name_kw (ld_glob I hg hm ?_ hdb)
  have w := call_walk (pos := pos) M hr hgd S hpm hkl hla hlk hpa hpk I h0
  obtain ⟨k1, k2, k3⟩ := kw_all (X := X) pos kws hkl
  cases es with
  | nil =>
    refine PySem.W.callWith_KW0 (h₀ := X.base) I.ok.mod.kin hk k1 ?_ (by rw [k2]; rfl)
    rw [k3]
    exact fun Γ p hΓ => w Γ p hΓ Γ p hΓ
  | cons e es =>
    rw [List.all_cons, Bool.and_eq_true] at hst
    refine PySem.W.callWith_KW (h₀ := X.base) I.ok.mod.kin hk k1 ?_ ?_ (star_cons e es X.env (by simpa using hst.1))
    · rw [k3]
      exact w
    · rw [k2, star_back pos X.env (e :: es) (by rw [List.all_cons, Bool.and_eq_true]; exact hst)]
      rfl
end
end MP
end

section
set_option Elab.async false
set_option linter.all false
set_option maxRecDepth 100000
set_option maxHeartbeats 4000000
namespace MP
open PySem PySem.Spec L2 PyProof.Rows
/-! ### sequences of both kinds: t says tuple -/
def SqK (t : Bool) (K : Kf) (H : Hp) (a : Addr) (xs : List V) : Prop := match t with
  | true => SqT K H a xs
  | false => SqL K H a xs
def ObK (t : Bool) (h : Heap) (a : Addr) (its : Array Value) : Prop := match t with
  | true => h.IsTuple a its
  | false => h.IsList a its
def ItrK (t : Bool) (h : Heap) (it a : Addr) (i : Nat) : Prop := match t with
  | true => h.IsTupleIter it a i
  | false => h.IsListIter it a i
def itObj (t : Bool) (a : Addr) : Obj := { cls := .type (if t then "tuple_iterator" else "list_iterator"), data := .fields #[.ref a, .int 0 0] }
theorem ItrK.at {t : Bool} {h h' : Heap} {it a : Addr} {i : Nat} (x : ItrK t h it a i) (e : ∀ o, h.get? it = some o → h'.get? it = some o) : ItrK t h' it a i := by
  cases t with
  | true => exact Heap.IsTupleIter.at x e
  | false => exact Heap.IsListIter.at x e
theorem ItrK.obj {t : Bool} {h : Heap} {it a : Addr} {i : Nat} (x : ItrK t h it a i) : ∃ o, h.get? it = some o ∧ ∀ v, o.data ≠ .cell v := by
  cases t with
  | true => obtain ⟨o, e, _, d⟩ := x; exact ⟨o, e, fun v q => by rw [d] at q; cases q⟩
  | false => obtain ⟨o, e, _, d⟩ := x; exact ⟨o, e, fun v q => by rw [d] at q; cases q⟩
theorem ItrK.new {t : Bool} {h : Heap} {it a : Addr} (e : h.get? it = some (itObj t a)) : ItrK t h it a 0 := by
  cases t with
  | true => exact ⟨_, e, rfl, rfl⟩
  | false => exact ⟨_, e, rfl, rfl⟩
theorem drawsK (t : Bool) {prog : Program} {w : World} {A : Around} (hh : A.handled = none) (it l : Addr) (hne : l ≠ it) (items : Array Value) :
    Draws prog w A it [it, l] items.size (fun i v => items[i]? = some v) (fun i h => ItrK t h it l i ∧ ObK t h l items) := by
  cases t with
  | true => exact Draws.tuple hh it l hne items
  | false => exact Draws.list hh it l hne items
/-- .. past the end -/
theorem drawsEnd (t : Bool) {prog : Program} {w : World} {A : Around} (hh : A.handled = none) (it l : Addr) (items : Array Value) (i : Nat) (hx : items[i]? = none) :
    Draws prog w A it [it, l] i (fun _ _ => False) (fun j h => ItrK t h it l j ∧ ObK t h l items ∧ j = i) where
  live := fun j h st => let ⟨o, e, _⟩ := st.1.obj; ⟨o, e⟩
  frame := fun j h h' st k => ⟨st.1.at fun o q => k it (by simp) o q, by
    have x := st.2.1
    cases t with
    | true => obtain ⟨o, e, r⟩ := x; exact ⟨o, k l (by simp) o e, r⟩
    | false => obtain ⟨o, e, r⟩ := x; exact ⟨o, k l (by simp) o e, r⟩, st.2.2⟩
  item := fun j s Q E hj st => absurd st.2.2 (Nat.ne_of_lt hj)
  done := fun s Q E st hE => by
    obtain ⟨h1, h2, _⟩ := st
    cases t with
    | true => exact wpAny_nextOf_tuple_end hh h1 h2 hx hE
    | false => exact wpAny_nextOf_list_end hh h1 h2 hx hE
/-- at each place, within or past the end -/
theorem drawsAt (t : Bool) {prog : Program} {w : World} {A : Around} (hh : A.handled = none) (it l : Addr) (hne : l ≠ it) (items : Array Value) (i : Nat) {h : Heap} (h1 : ItrK t h it l i) (h2 : ObK t h l items) :
    ∃ (n : Nat) (P : Nat → Value → Prop) (St : Nat → Heap → Prop), Draws prog w A it [it, l] n P St ∧ St i h ∧ i ≤ n ∧ (items[i]? = none → i = n) := by
  cases hx : items[i]? with
  | none => exact ⟨_, _, _, drawsEnd t hh it l items i hx, ⟨h1, h2, rfl⟩, Nat.le_refl _, fun _ => rfl⟩
  | some v => exact ⟨_, _, _, drawsK t hh it l hne items, ⟨h1, h2⟩, Nat.le_of_lt (Array.getElem?_eq_some_iff.mp hx).1, fun z => nomatch z⟩
theorem beginsK (t : Bool) (l : Addr) (items : Array Value) : Begins (.ref l) (itObj t l) fun h => ObK t h l items := by
  cases t with
  | true => exact begins_tuple l items
  | false => exact begins_list l items
section
variable {X : Cx} {pins : List (Addr × Obj)} {σ : L2.St} {H : Hp} {s : Shared}
theorem sqk_obj {t : Bool} (I : L2.Inv X pins σ H s) {a : Addr} {xs : List V} (q : SqK t X.K H a xs) : ∃ its : List Value, Vals xs its ∧ ObK t s.heap a its.toArray ∧ a < s.heap.objs.size ∧ xs.length ≤ sizeLine := by
  cases t with
  | true =>
    obtain ⟨its, r, pl, hz⟩ := I.tuple q
    obtain ⟨o, ho, _⟩ := id pl
    exact ⟨its, r, pl, Heap.lt_size ho, hz⟩
  | false =>
    obtain ⟨its, r, pl, hz⟩ := I.list q
    exact ⟨its, r, pl.isList, pl.lt, hz⟩
theorem sqk_inj {t : Bool} (I : L2.Inv X pins σ H s) {a : Addr} {xs ys : List V} (q : SqK t X.K H a xs) (r : SqK t X.K H a ys) : xs = ys := by
  cases t with
  | true => exact I.tuple_inj q r
  | false => exact I.list_inj q r
end
/-! ### enumerate -/
def ItE (t : Bool) (K : Kf) (a : Addr) : It :=
  ⟨fun i H => ∃ (xs : List V) (x : V), SqK t K H a xs ∧ xs[i]? = some x, fun i H v H' => ∃ T x, v = .ref T ∧ H T = none ∧ H' = upd H T (.tup [.int (i : Nat), x]) ∧ ∀ xs, SqK t K H a xs → xs[i]? = some x, fun i H => ∃ xs : List V, SqK t K H a xs ∧ xs.length ≤ i⟩
theorem turn_en (t : Bool) {P : Program} {w : World} {K : Kf} {elts : List Expr} {kk : Nat} {tpos : Pos} (a e it : Addr) (d1 : e ≠ it) (d2 : e ≠ a) (d3 : a ≠ it) :
    Turn P w K (.Tuple elts kk tpos) (ItE t K a) [e, it] e (fun i h => (∃ old, IsEnum h e it ((i : Nat) : Int) old) ∧ ItrK t h it a i) where
  mem := by simp
  obj := fun i h st b hb => by
    obtain ⟨⟨old, he⟩, hi⟩ := st
    have e' : b = e ∨ b = it := by simpa using hb
    rcases e' with z | z
    · rw [z]; exact ⟨_, he, fun v q => nomatch q⟩
    · rw [z]; exact hi.obj
  keep := fun i h h' st k => let ⟨⟨old, he⟩, hi⟩ := st; ⟨⟨old, k e (by simp) _ he⟩, hi.at fun o q => k it (by simp) o q⟩
  item := by
    intro X hP hw hK hc i pins s σ H E I hf st hg
    subst hP hw hK
    obtain ⟨⟨old, he⟩, hit⟩ := st
    obtain ⟨xs, x, hq, hx⟩ := hg
    obtain ⟨its, rv, p, hal, hz⟩ := sqk_obj I hq
    obtain ⟨u, hu, ru⟩ := rv.get hx
    have lt : ∀ b, b ∈ [e, it] → b < s.heap.objs.size := fun b hb => by
      have e' : b = e ∨ b = it := by simpa using hb
      rcases e' with z | z
      · rw [z]; exact Heap.lt_size he
      · rw [z]; obtain ⟨_, q, _⟩ := hit.obj; exact Heap.lt_size q
    have W := WalksT.enumerateD (drawsK t (prog := X.prog) (w := X.w) (A := X.A.in1) (I.ok.hd hc) it a d3 its.toArray) e d1 (by simp [d1, d2]) (by simp)
    refine W.item i s _ _ (by rw [List.size_toArray]; exact (List.getElem?_eq_some_iff.mp hu).1) ⟨⟨old, he⟩, hit, p⟩ fun T vals h' tk hp hT hI hm k => ?_
    obtain ⟨tt, y, hy, rfl⟩ := hp
    have ey : y = u := by
      rw [List.getElem?_toArray] at hy
      have hy : its[i]? = some y := hy
      rw [hu] at hy; cases hy; rfl
    subst ey
    have hTw := W.apart i T h' hm
    refine ⟨_, rfl, W.go elts kk tpos i T _ _ _ hm fun h'' st' k' => ?_⟩
    obtain ⟨oT, hT1, hT2, nT, hT3⟩ := hI
    have new : ObjOk X.prog X.w (upd H T (.tup [.int (i : Nat), x])) h'' T (.tup [.int (i : Nat), x]) :=
      ⟨by show 2 ≤ sizeLine; decide, [.int i tt, y], .cons ⟨_, rfl⟩ (.cons ru .nil), ⟨oT, k' _ _ hTw hT1, hT2, nT, hT3⟩⟩
    have I1 : L2.Inv X pins σ (upd H T (.tup [.int (i : Nat), x])) { s with heap := h'', toks := tk } := I.turnedNew (ch := [e, it]) (fun b ob hb q => k' b ob hb (k b ob hb q)) hf hT new
    refine ⟨.ref T, _, I1, rfl, ⟨T, x, rfl, I.hok.fresh hT, rfl, fun ys hy => by rw [sqk_inj I hy hq]; exact hx⟩, ⟨?_, st'.2.1⟩, fun b hb => ?_⟩
    · obtain ⟨old', he'⟩ := st'.1
      exact ⟨old', by simpa using he'⟩
    · rw [upd_ne (Nat.ne_of_lt (Nat.lt_of_lt_of_le (lt b hb) hT))]
      exact (hf b hb).1
  done := by
    intro X hP hw hK hc i pins s σ H E I hf st hg
    subst hP hw hK
    obtain ⟨⟨old, he⟩, hit⟩ := st
    obtain ⟨xs, hq, hx⟩ := hg
    obtain ⟨its, rv, p, hal, hz⟩ := sqk_obj I hq
    obtain ⟨f0, f1, f2, f3, f4, f5⟩ := hf it (by simp)
    have hl := rv.length
    have D := drawsEnd t (prog := X.prog) (w := X.w) (A := X.A.in1) (I.ok.hd hc) it a its.toArray i (by simp; omega)
    exact wpAny_pyNext_enum_endD D he ⟨hit, p, rfl⟩ fun h' eb => ⟨rfl, I.turned (t' := s.toks) (fun b o hb q => eb b o hb q) f0 f1 f3 f4 f5⟩
  self := fun A i s Q E st h => let ⟨⟨_, he⟩, _⟩ := st; wpAny_pyIter_enum he h
/-! ### zip -/
def ItZ (t u : Bool) (K : Kf) (a b : Addr) : It :=
  ⟨fun i H => ∃ (xs ys : List V) (x y : V), SqK t K H a xs ∧ SqK u K H b ys ∧ xs[i]? = some x ∧ ys[i]? = some y,
    fun i H v H' => ∃ T x y, v = .ref T ∧ H T = none ∧ H' = upd H T (.tup [x, y]) ∧ (∀ xs, SqK t K H a xs → xs[i]? = some x) ∧ ∀ ys, SqK u K H b ys → ys[i]? = some y,
    fun i H => ∃ xs ys : List V, SqK t K H a xs ∧ SqK u K H b ys ∧ (xs.length ≤ i ∨ ys.length ≤ i)⟩
theorem turn_zp (t u : Bool) {P : Program} {w : World} {K : Kf} {elts : List Expr} {kk : Nat} {tpos : Pos} {a b z TI TO i1 i2 : Addr} (D : ZipSep2 z TI TO i1 i2 [i1, a] [i2, b]) (da : a ≠ i1) (db : b ≠ i2) :
    Turn P w K (.Tuple elts kk tpos) (ItZ t u K a b) [z, TI, TO, i1, i2] z (fun i h => IsZip h z TI TO .none ∧ IsTupOf2 h TI (.ref i1) (.ref i2) ∧ (∃ x y, IsTupOf2 h TO x y) ∧ ItrK t h i1 a i ∧ ItrK u h i2 b i) where
  mem := by simp
  obj := fun i h st c hc => by
    obtain ⟨hz, hTI, ⟨x, y, hTO⟩, h1, h2⟩ := st
    have e' : c = z ∨ c = TI ∨ c = TO ∨ c = i1 ∨ c = i2 := by simpa using hc
    rcases e' with q | q | q | q | q
    · rw [q]; exact ⟨_, hz, fun v q => nomatch q⟩
    · rw [q]; exact ⟨_, hTI, fun v q => nomatch q⟩
    · rw [q]; exact ⟨_, hTO, fun v q => nomatch q⟩
    · rw [q]; exact h1.obj
    · rw [q]; exact h2.obj
  keep := fun i h h' st k => by
    obtain ⟨hz, hTI, ⟨x, y, hTO⟩, h1, h2⟩ := st
    exact ⟨k z (by simp) _ hz, k TI (by simp) _ hTI, ⟨x, y, k TO (by simp) _ hTO⟩, h1.at fun o q => k i1 (by simp) o q, h2.at fun o q => k i2 (by simp) o q⟩
  item := by
    intro X hP hw hK hc i pins s σ H E I hf st hg
    subst hP hw hK
    obtain ⟨hz, hTI, ⟨x0, y0, hTO⟩, h1, h2⟩ := st
    obtain ⟨xs, ys, x, y, hqx, hqy, hx, hy⟩ := hg
    obtain ⟨its, rv, p, _, _⟩ := sqk_obj I hqx
    obtain ⟨its2, rv2, p2, _, _⟩ := sqk_obj I hqy
    obtain ⟨v1, hu, ru⟩ := rv.get hx
    obtain ⟨v2, hu2, ru2⟩ := rv2.get hy
    have lt : ∀ c, c ∈ [z, TI, TO, i1, i2] → c < s.heap.objs.size := fun c hcm => by
      have e' : c = z ∨ c = TI ∨ c = TO ∨ c = i1 ∨ c = i2 := by simpa using hcm
      rcases e' with q | q | q | q | q
      · rw [q]; exact Heap.lt_size hz
      · rw [q]; exact Heap.lt_size hTI
      · rw [q]; exact Heap.lt_size hTO
      · rw [q]; obtain ⟨_, e1, _⟩ := h1.obj; exact Heap.lt_size e1
      · rw [q]; obtain ⟨_, e2, _⟩ := h2.obj; exact Heap.lt_size e2
    have W := WalksT.zipD2 D (drawsK t (prog := X.prog) (w := X.w) (A := X.A.in1) (I.ok.hd hc) i1 a da its.toArray) (drawsK u (prog := X.prog) (w := X.w) (A := X.A.in1) (I.ok.hd hc) i2 b db its2.toArray)
    have l1 := (List.getElem?_eq_some_iff.mp hu).1
    have l2 := (List.getElem?_eq_some_iff.mp hu2).1
    refine W.item i s _ _ (by rw [List.size_toArray, List.size_toArray]; omega) ⟨hz, hTI, ⟨x0, y0, hTO⟩, ⟨h1, p⟩, ⟨h2, p2⟩⟩ fun T vals h' tk hp hT hI hm k => ?_
    obtain ⟨y1, y2, e1, e2, rfl⟩ := hp
    have ey : y1 = v1 := by
      rw [List.getElem?_toArray] at e1
      have e1 : its[i]? = some y1 := e1
      rw [hu] at e1; cases e1; rfl
    have ey2 : y2 = v2 := by
      rw [List.getElem?_toArray] at e2
      have e2 : its2[i]? = some y2 := e2
      rw [hu2] at e2; cases e2; rfl
    subst ey ey2
    have hTw := W.apart i T h' hm
    refine ⟨_, rfl, W.go elts kk tpos i T _ _ _ hm fun h'' st' k' => ?_⟩
    obtain ⟨oT, hT1, hT2, nT, hT3⟩ := hI
    have new : ObjOk X.prog X.w (upd H T (.tup [x, y])) h'' T (.tup [x, y]) :=
      ⟨by show 2 ≤ sizeLine; decide, [y1, y2], .cons ru (.cons ru2 .nil), ⟨oT, k' _ _ hTw hT1, hT2, nT, hT3⟩⟩
    have wr : ∀ c, c ∉ [z, TI, TO, i1, i2] → c ∉ [z, TO, i1, i2] := fun c hcm z => hcm (by
      simp only [List.mem_cons] at z ⊢
      rcases z with z | z | z | z | z
      · exact .inl z
      · exact .inr (.inr (.inl z))
      · exact .inr (.inr (.inr (.inl z)))
      · exact .inr (.inr (.inr (.inr (.inl z))))
      · cases z)
    have I1 : L2.Inv X pins σ (upd H T (.tup [x, y])) { s with heap := h'', toks := tk } := I.turnedNew (ch := [z, TI, TO, i1, i2]) (fun c ob hb q => k' c ob (wr c hb) (k c ob (wr c hb) q)) hf hT new
    refine ⟨.ref T, _, I1, rfl, ⟨T, x, y, rfl, I.hok.fresh hT, rfl, fun l hl => by rw [sqk_inj I hl hqx]; exact hx, fun l hl => by rw [sqk_inj I hl hqy]; exact hy⟩, ⟨st'.1, st'.2.1, st'.2.2.1, st'.2.2.2.1.1, st'.2.2.2.2.1⟩, fun c hcm => ?_⟩
    rw [upd_ne (Nat.ne_of_lt (Nat.lt_of_lt_of_le (lt c hcm) hT))]
    exact (hf c hcm).1
  done := by
    intro X hP hw hK hc i pins s σ H E I hf st hg
    subst hP hw hK
    obtain ⟨hz, hTI, ⟨x0, y0, hTO⟩, h1, h2⟩ := st
    obtain ⟨xs, ys, hqx, hqy, hend⟩ := hg
    obtain ⟨its, rv, p, _, _⟩ := sqk_obj I hqx
    obtain ⟨its2, rv2, p2, _, _⟩ := sqk_obj I hqy
    have l1 := rv.length
    have l2 := rv2.length
    obtain ⟨n1, P1, S1, D1, s1, le1, en1⟩ := drawsAt t (prog := X.prog) (w := X.w) (A := X.A.in1) (I.ok.hd hc) i1 a da its.toArray i h1 p
    obtain ⟨n2, P2, S2, D2, s2, le2, en2⟩ := drawsAt u (prog := X.prog) (w := X.w) (A := X.A.in1) (I.ok.hd hc) i2 b db its2.toArray i h2 p2
    have he : i = n1 ∨ i = n2 := by
      rcases hend with q | q
      · exact .inl (en1 (by simp; omega))
      · exact .inr (en2 (by simp; omega))
    exact wpAny_pyNext_zipD2_end D D1 D2 hz hTI hTO s1 s2 le1 le2 he fun h' tk hk => ⟨rfl, I.turnedL (t' := tk) (ch := [z, TI, TO, i1, i2]) (fun c o hb q =>
      hk c o (fun q' => hb (by simp [q'])) (fun q' => hb (by simp [q'])) (fun q' => hb (by simp [q'])) (fun q' => hb (by simp [q'])) q) hf⟩
  self := fun A i s Q E st h => wpAny_pyIter_zip st.1 h
end MP
end

section
set_option Elab.async false
set_option linter.all false
set_option maxRecDepth 100000
set_option maxHeartbeats 4000000
namespace MP
open PySem PySem.Spec L2 PyProof.Rows
open PySem.Sem (wp)
/-! ### cursors and iterators -/
def SC (K : Kf) (t : Bool) (a : Addr) (i : Nat) (c : Cur) (F : Hp) (β : List Addr) : Prop := match c with
  | .st ds => ∃ all vs, VRs K F β all vs ∧ ds = all.drop i ∧ match t with
    | true => RT K F β a vs
    | false => RL K F β a vs
  | .lv n j => t = false ∧ β[n]? = some a ∧ j = i
  | _ => False
def ItP (t : Bool) (K : Kf) (a : Addr) : It := match t with
  | true => Itt K a
  | false => Itl K a
inductive CI (K : Kf) : It → Nat → Cur → Hp → List Addr → Prop where
  | seq (t : Bool) (a : Addr) {i : Nat} {c : Cur} {F : Hp} {β : List Addr} (h : SC K t a i c F β) : CI K (ItP t K a) i c F β
  | rg (lo hi : Int) {i : Nat} {F : Hp} {β : List Addr} : CI K (Itr lo (hi - lo).toNat) i (.st ((rng lo hi).drop i)) F β
  | en (t : Bool) (a : Addr) {i : Nat} {c : Cur} {F : Hp} {β : List Addr} (h : SC K t a i c F β) : CI K (ItE t K a) i (.en i c) F β
  | zp (t u : Bool) (a b : Addr) {i : Nat} {c d : Cur} {F : Hp} {β : List Addr} (h : SC K t a i c F β) (g : SC K u b i d F β) : CI K (ItZ t u K a b) i (.zp c d) F β
section
variable {K : Kf} {F F' H H' : Hp} {β β' : List Addr} {h : Hh} {t : Bool} {a : Addr} {i : Nat} {c : Cur} {J : It}
theorem SC.ext (e : Ext F β F' β') (s : SC K t a i c F β) : SC K t a i c F' β' := by
  cases c with
  | st ds =>
    obtain ⟨all, vs, w, d, r⟩ := s
    refine ⟨all, vs, VRs.ext e _ _ w, d, ?_⟩
    cases t with
    | true => exact RT.ext e r
    | false => exact RL.ext e r
  | lv n j => exact ⟨s.1, e.pre _ _ s.2.1, s.2.2⟩
  | en _ _ => exact s
  | zp _ _ => exact s
theorem CI.ext (e : Ext F β F' β') (s : CI K J i c F β) : CI K J i c F' β' := by
  cases s with
  | seq t a h => exact .seq t a (h.ext e)
  | rg lo hi => exact .rg lo hi
  | en t a h => exact .en t a (h.ext e)
  | zp t u a b h g => exact .zp t u a b (h.ext e) (g.ext e)
theorem SC.now (sm : Same F H) (gd : Good K F β h) (s : SC K t a i c F β) : match next c h with
    | .stop => ∃ xs, SqK t K H a xs ∧ xs.length ≤ i
    | .it d c' => (∃ xs v, SqK t K H a xs ∧ xs[i]? = some v ∧ VR K F β d v) ∧ SC K t a (i + 1) c' F β
    | .stuck => True := by
  cases c with
  | st ds =>
    obtain ⟨all, vs, w, e, r⟩ := s
    have q : SqK t K H a vs := by
      cases t with
      | true => exact RT.sq sm r
      | false => exact RL.sq sm r
    cases ds with
    | nil =>
      refine ⟨vs, q, ?_⟩
      have := congrArg List.length e
      rw [List.length_drop, List.length_nil] at this
      rw [w.len]; omega
    | cons d ds =>
      have hi : all[i]? = some d := by
        have := congrArg (·[0]?) e
        simp only [List.getElem?_cons_zero, List.getElem?_drop, Nat.add_zero] at this
        exact this.symm
      obtain ⟨v, hv, rv⟩ := w.get hi
      refine ⟨⟨vs, v, q, hv, rv⟩, all, vs, w, ?_, r⟩
      have := congrArg List.tail e
      rw [List.tail_cons, List.tail_drop] at this
      exact this
  | lv n j =>
    obtain ⟨rfl, hb, rfl⟩ := s
    unfold next
    cases hh : h[n]? with
    | none => exact trivial
    | some o =>
      cases o with
      | lst ds =>
        obtain ⟨vs, f, w, _⟩ := gd.at_ hb hh
        have q : SqK false K H a vs := .inl (.inl (sm _ _ f))
        cases hd : ds[j]? with
        | none =>
          simp only [hd]
          refine ⟨vs, q, ?_⟩
          rw [List.getElem?_eq_none_iff] at hd
          rw [w.len]; exact hd
        | some d =>
          simp only [hd]
          obtain ⟨v, hv, rv⟩ := w.get hd
          exact ⟨⟨vs, v, q, hv, rv⟩, rfl, hb, rfl⟩
  | en _ _ => exact s.elim
  | zp _ _ => exact s.elim
/-- a turn -/
theorem fresh_out (sm : Same F H) (gd : Good K F β h) {T : Addr} (n : H T = none) : T ∉ β := fun z => by
  obtain ⟨_, vs', _, _, _, f, _⟩ := gd.mem z
  have := sm _ _ f
  rw [n] at this; cases this
theorem drop_one {α : Type} {l : List α} {i : Nat} {d : α} {ds : List α} (e : l.drop i = d :: ds) : l[i]? = some d ∧ ds = l.drop (i + 1) := by
  constructor
  · have := congrArg (·[0]?) e
    simpa using this
  · have := congrArg List.tail e
    rw [List.tail_cons, List.tail_drop] at this
    exact this.symm
theorem CI.now (sm : Same F H) (gd : Good K F β h) (s : CI K J i c F β) : match next c h with
    | .stop => J.stop i H
    | .it d c' => J.go i H ∧ ∀ x H', J.yld i H x H' → ∃ F', PStep F H F' H' ∧ VR K F' β d x ∧ CI K J (i + 1) c' F' β
    | .stuck => True := by
  cases s with
  | seq t a hs =>
    have z := hs.now sm gd
    revert z
    cases next c h with
    | stuck => exact fun _ => trivial
    | stop =>
      rintro ⟨xs, q, l⟩
      cases t with
      | true => exact ⟨xs, q, l⟩
      | false => exact ⟨xs, q, l⟩
    | it d c' =>
      rintro ⟨⟨xs, v, q, hv, rv⟩, s'⟩
      cases t with
      | true =>
        refine ⟨⟨xs, v, q, hv⟩, fun x H' y => ?_⟩
        obtain ⟨rfl, y⟩ := y
        have := y xs q
        rw [hv] at this; cases this
        exact ⟨F, .refl sm, rv, .seq true a s'⟩
      | false =>
        refine ⟨⟨xs, v, q, hv⟩, fun x H' y => ?_⟩
        obtain ⟨rfl, y⟩ := y
        have := y xs q
        rw [hv] at this; cases this
        exact ⟨F, .refl sm, rv, .seq false a s'⟩
  | rg lo hi =>
    cases hd : (rng lo hi).drop i with
    | nil =>
      show (hi - lo).toNat ≤ i
      have := congrArg List.length hd
      unfold rng at this
      rw [List.length_drop, List.length_map, List.length_range, List.length_nil] at this
      omega
    | cons d ds =>
      obtain ⟨e1, e2⟩ := drop_one hd
      unfold rng at e1
      rw [List.getElem?_map] at e1
      cases hr : (List.range (hi - lo).toNat)[i]? with
      | none => rw [hr] at e1; cases e1
      | some k =>
        rw [hr] at e1
        obtain ⟨hk, ek⟩ := List.getElem?_eq_some_iff.mp hr
        rw [List.getElem_range] at ek
        rw [List.length_range] at hk
        subst ek
        have e1 : d = .int (lo + (i : Nat)) := by simpa using e1.symm
        refine ⟨hk, fun x H' y => ?_⟩
        obtain ⟨rfl, rfl⟩ := y
        subst e1
        rw [e2]
        exact ⟨F, .refl sm, rfl, .rg lo hi⟩
  | en t a hs =>
    rename_i c
    have z := hs.now sm gd
    unfold next
    revert z
    cases next c h with
    | stuck => exact fun _ => trivial
    | stop => exact fun z => z
    | it d c' =>
      rintro ⟨⟨xs, v, q, hv, rv⟩, s'⟩
      refine ⟨⟨xs, v, q, hv⟩, fun x H' y => ?_⟩
      obtain ⟨T, y1, rfl, n, rfl, y2⟩ := y
      have := y2 xs q
      rw [hv] at this; cases this
      have ps := PStep.known (o := .tup [.int (i : Nat), v]) sm n
      exact ⟨_, ps, ⟨T, [.int (i : Nat), v], rfl, .inl ⟨fresh_out sm gd n, .inl upd_same⟩, ⟨_, _, rfl, rfl, ⟨_, _, rfl, VR.ext ps.extb _ _ rv, rfl⟩⟩⟩, .en t a (s'.ext ps.extb)⟩
  | zp t u a b hs gs =>
    rename_i c c2
    have z := hs.now sm gd
    have z2 := gs.now sm gd
    unfold next
    revert z z2
    cases next c h with
    | stuck => intro _ _; cases next c2 h <;> exact trivial
    | stop =>
      cases next c2 h with
      | stuck => exact fun _ _ => trivial
      | stop => rintro ⟨xs, q, l⟩ ⟨ys, q2, l2⟩; exact ⟨xs, ys, q, q2, .inl l⟩
      | it e c2' => rintro ⟨xs, q, l⟩ ⟨⟨ys, w, q2, hw, rw'⟩, s2⟩; exact ⟨xs, ys, q, q2, .inl l⟩
    | it d c' =>
      cases next c2 h with
      | stuck => exact fun _ _ => trivial
      | stop => rintro ⟨⟨xs, v, q, hv, rv⟩, s'⟩ ⟨ys, q2, l2⟩; exact ⟨xs, ys, q, q2, .inr l2⟩
      | it e c2' =>
        rintro ⟨⟨xs, v, q, hv, rv⟩, s'⟩ ⟨⟨ys, w, q2, hw, rw'⟩, s2⟩
        refine ⟨⟨xs, ys, v, w, q, q2, hv, hw⟩, fun x H' y => ?_⟩
        obtain ⟨T, y1, y2, rfl, n, rfl, k1, k2⟩ := y
        have := k1 xs q
        rw [hv] at this; cases this
        have := k2 ys q2
        rw [hw] at this; cases this
        have ps := PStep.known (o := .tup [v, w]) sm n
        exact ⟨_, ps, ⟨T, [v, w], rfl, .inl ⟨fresh_out sm gd n, .inl upd_same⟩, ⟨_, _, rfl, VR.ext ps.extb _ _ rv, ⟨_, _, rfl, VR.ext ps.extb _ _ rw', rfl⟩⟩⟩, .zp t u a b (s'.ext ps.extb) (s2.ext ps.extb)⟩
/-! ### what a for goes over -/
def PostI (K : Kf) (F : Hp) (β : List Addr) (H : Hp) (o : Out Cur) (R : It → Hp → Prop) : Prop := match o with
  | .ok c h' => ∀ J F' β' H', Same F' H' → Step F β H F' β' H' → Good K F' β' h' → CI K J 0 c F' β' → R J H'
  | _ => False
def tI (K : Kf) (d : DenI) : TI := fun σ H R => ∃ F β h en, Same F H ∧ Good K F β h ∧ SimE K F β en σ ∧ PostI K F β H (d en h) R
theorem PostI.shift {F1 H1 : Hp} {β1 : List Addr} {o : Out Cur} {R : It → Hp → Prop} (sm : Same F H) (s : Step F β H F1 β1 H1) (p : PostI K F β H o R) : PostI K F1 β1 H1 o R := by
  cases o with
  | ok c h' => exact fun J F' β' H' sm' s' g' ci => p J F' β' H' sm' (Step.trans sm s s') g' ci
  | er e h => exact p
  | no => exact p
theorem bindI {en : En} {σ : L2.St} {a : Den} {f : R → Hh → Out Cur} {Q : It → Hp → Prop} {k : V → Hp → Prop} (sm : Same F H) (gd : Good K F β h) (se : SimE K F β en σ) (post : PostI K F β H ((a en h).bind f) Q)
    (hk : ∀ r v F1 β1 H1 h1, Same F1 H1 → Step F β H F1 β1 H1 → Good K F1 β1 h1 → SimE K F1 β1 en σ → RR K F1 β1 H H1 r v → PostI K F1 β1 H1 (f r h1) Q → k v H1) : tD K a σ H k :=
  bind1 (P := fun F β H o => PostI K F β H o Q) sm gd se post (fun z => z) (fun _ _ z => z) (fun _ _ _ _ s _ p => p.shift sm s) hk
/-- a sequence as a cursor; what is new becomes known -/
theorem cur_of {H₀ F0 : Hp} {β0 : List Addr} (sm0 : Same F0 H₀) (st : Step F0 β0 H₀ F β H) (sm : Same F H) (gd : Good K F β h) {r : R} {v : V} {c : Cur} (rr : RR K F β H₀ H r v) (e : curOf h r = some c) :
    ∃ t a F', v = .ref a ∧ (∃ xs, SqK t K H a xs) ∧ Same F F' ∧ Same F' H ∧ Step F0 β0 H₀ F' β H ∧ Good K F' β h ∧ SC K t a 0 c F' β ∧ ∀ b, F b = none → b ∉ flA [r] [v] → F' b = none := by
  cases r with
  | fl ds =>
    cases (show some (Cur.st ds) = some c from e)
    obtain ⟨a, vs, rfl, n, f, q, w⟩ := rr
    obtain ⟨k1, k2, k3, na, x⟩ := know sm0 st sm gd n f q
    refine ⟨false, a, _, rfl, ⟨vs, .inl (.inl q)⟩, k1, k2, k3, gd.more k1, ⟨ds, vs, VRs.ext x _ _ w, rfl, na, .inl upd_same⟩, fun b z m => ?_⟩
    rw [upd_ne (fun e => m (by rw [e]; exact List.mem_cons_self))]
    exact z
  | d y =>
    cases y with
    | lst ds =>
      cases (show some (Cur.st ds) = some c from e)
      obtain ⟨a, vs, rfl, q, w⟩ := rr
      exact ⟨false, a, F, rfl, ⟨vs, q.sq sm⟩, Same.refl _, sm, st, gd, ⟨ds, vs, w, rfl, q⟩, fun _ z _ => z⟩
    | tup ds =>
      cases (show some (Cur.st ds) = some c from e)
      obtain ⟨a, vs, rfl, q, w⟩ := rr
      exact ⟨true, a, F, rfl, ⟨vs, q.sq sm⟩, Same.refl _, sm, st, gd, ⟨ds, vs, w, rfl, q⟩, fun _ z _ => z⟩
    | ref n =>
      have e : (match h[n]? with
        | some (.lst _) => some (Cur.lv n 0)
        | none => none) = some c := e
      split at e
      · rename_i l hl
        cases e
        obtain ⟨a, q, rfl⟩ := rr
        obtain ⟨vs, f, w, _⟩ := gd.at_ q hl
        exact ⟨false, a, F, rfl, ⟨vs, .inl (.inl (sm _ _ f))⟩, Same.refl _, sm, st, gd, ⟨rfl, q, rfl⟩, fun _ z _ => z⟩
      · cases e
    | _ => exact nomatch e
end
section
variable {X : Cx} {tg e e2 : Expr} {d d2 : Den} {p pos tpos : Pos} {elts : List Expr} {kk : Nat}
theorem fp_of {pins : List (Addr × Obj)} {s : Shared} {σ : L2.St} {H : Hp} (I : L2.Inv X pins σ H s) {b : Addr} (h : s.heap.objs.size ≤ b) : FpOk X pins H b := I.fpOk h (I.hok.fresh h)
theorem pie_seq {pins : List (Addr × Obj)} {s : Shared} {σ : L2.St} {H : Hp} {R : It → Hp → Prop} {t : Bool} {a : Addr} {xs : List V} (I : L2.Inv X pins σ H s) (hq : SqK t X.K H a xs) (q : R (ItP t X.K a) H) : wpAny (model X.prog X.w) X.A (pyIter (.ref a)) (PIE X pins σ tg R) X.xe s := by
  obtain ⟨its, rv, p, hal, hz⟩ := sqk_obj I hq
  refine (beginsK t a its.toArray).iter _ _ _ _ _ _ p ?_
  have I2 : L2.Inv X pins σ H { s with heap := s.heap.push (itObj t a) } := I.kept (t' := s.toks) fun b o z => Heap.get?_push_of_some _ z
  have fr : ∀ b ∈ [s.heap.objs.size], FpOk X pins H b := fun b hb => by
    rw [List.mem_singleton] at hb
    exact fp_of I (Nat.le_of_eq hb.symm)
  have at0 : (s.heap.push (itObj t a)).get? s.heap.objs.size = some (itObj t a) := Heap.get?_push_size _ (by cases t <;> rfl)
  cases t with
  | true => exact ⟨s.heap.objs.size, [s.heap.objs.size], _, _, H, rfl, I2, turn_tuple a _, ⟨_, at0, rfl, rfl⟩, fr, q⟩
  | false => exact ⟨s.heap.objs.size, [s.heap.objs.size], _, _, H, rfl, I2, turn_list a _, ⟨_, at0, rfl, rfl⟩, fr, q⟩
theorem pi_e (he : PE X e (tD X.K d)) : PI X tg e (tI X.K (kIe d)) := by
  refine ⟨fun pins s σ H R I ⟨F, β, h, en, sm, gd, se, post⟩ => ?_⟩
  have hb : tD X.K d σ H (fun v H1 => ∃ t a, v = .ref a ∧ (∃ xs, SqK t X.K H1 a xs) ∧ R (ItP t X.K a) H1) := by
    refine ⟨F, β, h, en, sm, gd, se, ?_⟩
    unfold kIe at post
    cases hd : d en h with
    | er e h => rw [hd] at post; exact post
    | no => rw [hd] at post; exact post
    | ok r h1 =>
      rw [hd] at post
      intro v F1 β1 H1 sm1 st1 gd1 rr1
      have post : PostI X.K F β H (ofO (curOf h1 r) h1) R := post
      unfold ofO at post
      split at post
      · rename_i c ec
        obtain ⟨t, a, F2, ev, q, k1, k2, k3, k4, k5, _⟩ := cur_of sm st1 sm1 gd1 rr1 ec
        exact ⟨t, a, ev, q, post _ F2 β1 H1 k2 k3 k4 (.seq t a k5)⟩
      · exact post.elim
  refine thn (he.run pins s σ H _ I hb) fun v s1 ⟨x, H1, I1, r1, t, a, ex, ⟨xs, hq⟩, q⟩ => ?_
  subst ex
  cases r1
  exact pie_seq I1 hq q
theorem pi_rg1 {x : Str} (hx : x = "range") (hg : Gl X x) (hm : X.mg x = none) (he : PE X e (tD X.K d)) (hs : isStar e = false) : PI X tg (.Call (.Name x p) [e] [] pos) (tI X.K (kRg1 d)) := by
  subst hx
  refine PI_weak (pi_range1 hg hm (pa_cons he pa_nil (star_cons _ _ _ hs)) (star_cons _ _ _ hs)) fun σ H R ⟨F, β, h, en, sm, gd, se, post⟩ => ?_
  refine bindI sm gd se post fun r v F1 β1 H1 h1 sm1 st1 gd1 se1 rr1 post1 => ?_
  unfold rg1R at post1
  split at post1
  case h_2 => exact post1.elim
  rename_i j
  split at post1
  case isFalse => exact post1.elim
  rename_i hj
  cases (show v = .int j from rr1)
  refine ⟨j, rfl, hj.1, hj.2, post1 _ F1 β1 H1 sm1 .refl gd1 ?_⟩
  have z := CI.rg (K := X.K) 0 j (i := 0) (F := F1) (β := β1)
  rw [List.drop_zero, Int.sub_zero] at z
  exact z
theorem pi_rg2 {x : Str} (hx : x = "range") (hg : Gl X x) (hm : X.mg x = none) (he : PE X e (tD X.K d)) (he2 : PE X e2 (tD X.K d2)) (hs : isStar e = false) (hs2 : isStar e2 = false) : PI X tg (.Call (.Name x p) [e, e2] [] pos) (tI X.K (kRg2 d d2)) := by
  subst hx
  refine PI_weak (pi_range2 hg hm (pa_cons he (pa_cons he2 pa_nil (star_cons _ _ _ hs2)) (star_cons _ _ _ hs)) (by rw [star_cons _ _ _ hs, star_cons _ _ _ hs2]; rfl) (star_cons _ _ _ hs2)) fun σ H R ⟨F, β, h, en, sm, gd, se, post⟩ => ?_
  refine bindI sm gd se post fun r v F1 β1 H1 h1 sm1 st1 gd1 se1 rr1 post1 => ?_
  refine bindI sm1 gd1 se1 post1 fun r2 v2 F2 β2 H2 h2 sm2 st2 gd2 se2 rr2 post2 => ?_
  unfold rg2R at post2
  split at post2
  case h_2 => exact post2.elim
  rename_i i j
  split at post2
  case isFalse => exact post2.elim
  rename_i hj
  cases (show v = .int i from rr1)
  cases (show v2 = .int j from rr2)
  refine ⟨i, j, rfl, hj, post2 _ F2 β2 H2 sm2 .refl gd2 ?_⟩
  have z := CI.rg (K := X.K) i j (i := 0) (F := F2) (β := β2)
  rw [List.drop_zero] at z
  exact z
/-! enumerate(v): its two new cells -/
theorem meets_enumerate_new1 {v : Value} {o : Obj} {H : Heap → Prop} (B : Begins v o H) :
    Meets (Builtin.«enumerate.__new__» ⟨[.type "enumerate", v], []⟩) (fun _ R s => H s.heap ∧
      R (.ok (.ret (.ref (s.heap.push o).objs.size))) { s with heap := (s.heap.push o).push { cls := .type "enumerate", data := .fields #[.none, .bool false, .ref s.heap.objs.size, rawInt 0, .none, .none] } }) :=
  .of_wp fun prog w A R s h => by
    obtain ⟨hp, g, dr, tk, os⟩ := s
    obtain ⟨h1, h⟩ := h
    have sub := sub_enumerate
    have q1 : ∀ {A' : Around} {E : Value → Shared → Prop} {Q : Value → Shared → Prop}, Q (.ref hp.objs.size) ⟨hp.push o, g, dr, tk, os⟩ → wpAny (model prog w) A' (pyIter v) Q E ⟨hp, g, dr, tk, os⟩ :=
      fun q => B.iter prog w _ _ ⟨hp, g, dr, tk, os⟩ _ h1 q
    wp_walk using q1
    refine wpAny_stack_any fun st => wpAny_pure ?_
    split
    · rename_i c _ _ _ _ _
      cases (c == Value.type "enumerate")
      · wp_walk using q1
        exact ⟨_, rfl, h⟩
      · wp_walk using q1
        exact ⟨_, rfl, h⟩
    · wp_walk using q1
      exact ⟨_, rfl, h⟩
end
end MP
end

section
set_option Elab.async false
set_option linter.all false
set_option maxRecDepth 100000
set_option maxHeartbeats 4000000
namespace MP
open PySem PySem.Spec L2 PyProof.Rows
section
variable {prog : Program} {w : World} {A : Around} {E : Value → Shared → Prop} {s : Shared}
abbrev enO : Heap → Obj → Obj := fun h _ => { cls := .type "enumerate", data := .fields #[.none, .bool false, .ref h.objs.size, rawInt 0, .none, .none] }
theorem call_en1 {v : Value} {o : Obj} {H : Heap → Prop} {Q : Value → Shared → Prop} (B : Begins v o H) (h1 : H s.heap)
    (h : ∀ h', IsEnum h' (s.heap.objs.size + 1) s.heap.objs.size 0 .none → h'.get? s.heap.objs.size = some o → (∀ b o', s.heap.get? b = some o' → h'.get? b = some o') → Q (.ref (s.heap.objs.size + 1)) { s with heap := h' }) :
    wpAny (model prog w) A (call (.type "enumerate") [v]) Q E s := by
  refine callType_new F.called_enumerate (by decide) (F.typeCall_enumerate_1 _) (F.newCall_enumerate_1 _) (fun obj => F.args_object_init_2 obj _) F.entry_enumerate_new (meets_enumerate_new1 B) ⟨h1, ?_⟩
  have hz : (s.heap.push o).objs.size = s.heap.objs.size + 1 := Heap.size_push ..
  have he : IsEnum ((s.heap.push o).push (enO s.heap o)) (s.heap.objs.size + 1) s.heap.objs.size 0 .none := by
    have z := Heap.get?_push_size (s.heap.push o) (o := enO s.heap o) rfl
    rw [hz] at z
    exact z
  show _ ∧ _
  rw [hz]
  exact ⟨⟨_, he, rfl⟩, h _ he (Heap.get?_push_of_some _ (Heap.get?_push_size _ B.free)) fun b o' x => Heap.get?_push_of_some _ (Heap.get?_push_of_some _ x)⟩
end
section
variable {X : Cx} {tg e e2 : Expr} {d d2 : Den} {p pos tpos : Pos} {elts : List Expr} {kk : Nat} {x : Str}
theorem pi_en (hx : x = "enumerate") (hg : Gl X x) (hm : X.mg x = none) (he : PE X e (tD X.K d)) (hs : isStar e = false) : PI X (.Tuple elts kk tpos) (.Call (.Name x p) [e] [] pos) (tI X.K (kEn d)) := by
  subst hx
  refine ⟨fun pins s σ H R I ⟨F, β, h, en, sm, gd, se, post⟩ => ?_⟩
  have hb : tCons (tD X.K d) tNil σ H (fun vs H1 => ∃ t a, vs = [.ref a] ∧ (∃ xs, SqK t X.K H1 a xs) ∧ R (ItE t X.K a) H1) := by
    refine ⟨F, β, h, en, sm, gd, se, ?_⟩
    unfold kEn at post
    cases hd : d en h with
    | er e h => rw [hd] at post; exact post
    | no => rw [hd] at post; exact post
    | ok r h1 =>
      rw [hd] at post
      intro v F1 β1 H1 sm1 st1 gd1 rr1
      have post : PostI X.K F β H (enR r h1) R := post
      unfold enR at post
      split at post
      · rename_i c ec
        obtain ⟨t, a, F2, ev, q, k1, k2, k3, k4, k5, _⟩ := cur_of sm st1 sm1 gd1 rr1 ec
        exact ⟨t, a, by rw [ev], q, post _ F2 β1 H1 k2 k3 k4 (.en t a k5)⟩
      · exact post.elim
  have ha : PA X [e] (tCons (tD X.K d) tNil) := pa_cons he pa_nil (star_cons _ _ _ hs)
  refine Call_ (ld_blt I hg hm boot_enumerate (PyProof.Rows.callWith_type1 (thn (ha.run pos pins s σ H _ I hb) fun us s1 ⟨vs, H1, I1, r1, t, a, ex, ⟨xs, hq⟩, q⟩ => ?_) (star_cons _ _ _ hs) rfl))
  subst ex
  rw [Vals.ref1 r1]
  obtain ⟨its, rv, p', hal, hz⟩ := sqk_obj I1 hq
  refine call_en1 (beginsK t a its.toArray) p' fun h' hen hit hk => wpAny_pyIter_enum hen ?_
  have I2 : L2.Inv X pins σ H1 { s1 with heap := h' } := I1.kept (t' := s1.toks) hk
  refine ⟨s1.heap.objs.size + 1, [s1.heap.objs.size + 1, s1.heap.objs.size], _, _, H1, rfl, I2, turn_en t a (s1.heap.objs.size + 1) s1.heap.objs.size (Nat.succ_ne_self _) (Nat.ne_of_gt (Nat.lt_succ_of_lt hal)) (Nat.ne_of_lt hal), ⟨⟨.none, hen⟩, .new hit⟩, fun b hb => fp_of I1 ?_, q⟩
  have e' : b = s1.heap.objs.size + 1 ∨ b = s1.heap.objs.size := by simpa using hb
  rcases e' with z | z
  · rw [z]; exact Nat.le_add_right _ _
  · rw [z]; exact Nat.le_refl _
theorem pi_zp (hx : x = "zip") (hg : Gl X x) (hm : X.mg x = none) (he : PE X e (tD X.K d)) (he2 : PE X e2 (tD X.K d2)) (hs : isStar e = false) (hs2 : isStar e2 = false) : PI X (.Tuple elts kk tpos) (.Call (.Name x p) [e, e2] [] pos) (tI X.K (kZp d d2)) := by
  subst hx
  refine ⟨fun pins s σ H R I ⟨F, β, h, en, sm, gd, se, post⟩ => ?_⟩
  have hb : tCons (tD X.K d) (tCons (tD X.K d2) tNil) σ H (fun vs H1 => ∃ t u a b, vs = [.ref a, .ref b] ∧ (∃ xs, SqK t X.K H1 a xs) ∧ (∃ ys, SqK u X.K H1 b ys) ∧ R (ItZ t u X.K a b) H1) := by
    refine ⟨F, β, h, en, sm, gd, se, ?_⟩
    unfold kZp at post
    cases hd : d en h with
    | er e h => rw [hd] at post; exact post
    | no => rw [hd] at post; exact post
    | ok r h1 =>
    rw [hd] at post
    intro v F1 β1 H1 sm1 st1 gd1 rr1
    have post : PostI X.K F β H ((d2 en h1).bind fun s h => zpR r s h) R := post
    refine ⟨F1, β1, h1, en, sm1, gd1, se.ext st1.ext, ?_⟩
    cases hd2 : d2 en h1 with
    | er e h => rw [hd2] at post; exact post
    | no => rw [hd2] at post; exact post
    | ok r2 h2 =>
    rw [hd2] at post
    intro v2 F2 β2 H2 sm2 st2 gd2 rr2
    have post : PostI X.K F β H (zpR r r2 h2) R := post
    unfold zpR at post
    split at post
    case h_2 => exact post.elim
    rename_i c1 c2 ec1 ec2
    have st := Step.trans sm st1 st2
    have rrb := rr2.back sm st1 sm1
    obtain ⟨t, a, F3, ev, q, k1, k2, k3, k4, k5, k6⟩ := cur_of sm st sm2 gd2 (rr1.step st2) ec1
    have x3 : Ext F2 β2 F3 β2 := ⟨fun _ _ z => z, fun b o z m => ⟨k1 b o z, m⟩⟩
    have rrc : RR X.K F3 β2 H H2 r2 v2 := by
      cases r2 with
      | d y => exact VR.ext x3 y v2 rrb
      | fl l =>
        obtain ⟨b, ws, rfl, n, f, q2, w⟩ := rrb
        refine ⟨b, ws, rfl, n, k6 b f fun m => ?_, q2, VRs.ext x3 l ws w⟩
        cases r with
        | d y => exact nomatch m
        | fl l2 =>
          obtain ⟨b', ws', e', n', f', q', w'⟩ := rr1
          subst e'
          have eb : b = b' := by simpa [flA] using m
          subst eb
          obtain ⟨_, _, e2, n2, _⟩ := rr2
          cases e2
          rw [q'] at n2
          cases n2
    obtain ⟨u, b, F4, ev2, q2, j1, j2, j3, j4, j5, _⟩ := cur_of sm k3 k2 k4 rrc ec2
    have x4 : Ext F3 β2 F4 β2 := ⟨fun _ _ z => z, fun b o z m => ⟨j1 b o z, m⟩⟩
    exact ⟨t, u, a, b, by rw [ev, ev2], q, q2, post _ F4 β2 H2 j2 j3 j4 (.zp t u a b (k5.ext x4) j5)⟩
  have ha : PA X [e, e2] (tCons (tD X.K d) (tCons (tD X.K d2) tNil)) := pa_cons he (pa_cons he2 pa_nil (star_cons _ _ _ hs2)) (star_cons _ _ _ hs)
  refine Call_ (ld_blt I hg hm PyProof.Rows.boot_zip (PyProof.Rows.callWith_type1 (thn (ha.run pos pins s σ H _ I hb) fun us s1 ⟨vs, H1, I1, r1, t, u, a, b, ex, ⟨xs, hqx⟩, ⟨ys, hqy⟩, q⟩ => ?_) (star_cons _ _ _ hs) (star_back _ _ _ (by rw [List.all_cons, hs2]; rfl))))
  subst ex
  cases r1 with
  | cons r rr =>
  cases rr with
  | cons r' rr =>
  cases rr
  cases r
  cases r'
  obtain ⟨its, rv, p1, la, _⟩ := sqk_obj I1 hqx
  obtain ⟨its2, rv2, p2, lb, _⟩ := sqk_obj I1 hqy
  refine zip_begins2 (beginsK t a its.toArray) (beginsK u b its2.toArray) p1 p2 fun h' hz hTI hTO h1 h2 hsz hk => wpAny_pyIter_zip hz ?_
  have I2 : L2.Inv X pins σ H1 { s1 with heap := h' } := I1.kept (t' := s1.toks) hk
  have D := zip_sep2 (N := s1.heap.objs.size) (fp1 := [a]) (fp2 := [b]) (fun c hc => by rw [List.mem_singleton] at hc; rw [hc]; exact la) (fun c hc => by rw [List.mem_singleton] at hc; rw [hc]; exact lb)
  refine ⟨s1.heap.objs.size + 4, [s1.heap.objs.size + 4, s1.heap.objs.size + 2, s1.heap.objs.size + 3, s1.heap.objs.size, s1.heap.objs.size + 1], _, _, H1, rfl, I2, turn_zp t u D (Nat.ne_of_lt la) (Nat.ne_of_lt (Nat.lt_succ_of_lt lb)), ⟨hz, hTI, ⟨_, _, hTO⟩, .new h1, .new h2⟩, fun c hc => fp_of I1 ?_, q⟩
  simp only [List.mem_cons, List.not_mem_nil, or_false] at hc
  rcases hc with z | z | z | z | z
  · rw [z]; exact Nat.le_add_right _ _
  · rw [z]; exact Nat.le_add_right _ _
  · rw [z]; exact Nat.le_add_right _ _
  · rw [z]; exact Nat.le_refl _
  · rw [z]; exact Nat.le_add_right _ _
end
end MP
end

section
set_option Elab.async false
set_option linter.all false
set_option maxRecDepth 100000
set_option maxHeartbeats 4000000
namespace MP
open PySem PySem.Spec L2 PyProof.Rows
section
variable {prog : Program} {w : World} {A : Around} {E : Value → Shared → Prop} {s : Shared} {z TI TO i1 i2 T : Addr} {fp1 fp2 : List Addr} {n1 n2 i : Nat} {P1 P2 : Nat → Value → Prop} {St1 St2 : Nat → Heap → Prop} {f : Bool} {oT : Obj}
/-- the next pair of a zip whose last pair is still held -/
theorem zipH_item {Q : Value → Shared → Prop} (S : ZipSep2 z TI TO i1 i2 fp1 fp2) (D1 : Draws prog w A i1 fp1 n1 P1 St1) (D2 : Draws prog w A i2 fp2 n2 P2 St2)
    (hz : IsZipHeld s.heap z TI TO T f) (hT : s.heap.get? T = some oT) (hTI : IsTupOf2 s.heap TI (.ref i1) (.ref i2)) (st1 : St1 i s.heap) (st2 : St2 i s.heap) (l1 : i < n1) (l2 : i < n2)
    (hQ : ∀ x y h' tk, P1 i x → P2 i y → IsZipHeld h' z TI TO T true → St1 (i + 1) h' → St2 (i + 1) h' → IsTupOf2 h' s.heap.objs.size x y →
      (∀ c o, c ≠ z → c ≠ i1 → c ≠ i2 → s.heap.get? c = some o → h'.get? c = some o) → Q (.ref s.heap.objs.size) { s with heap := h', toks := tk }) :
    wpAny (model prog w) A (Builtin.«zip.__next__» ⟨[.ref z], []⟩) (fun fin s' => ∃ v, fin = .done (.ret v) ∧ Q v s') E s := by
  show wpAny _ _ (field (.ref z) 2 >>= _) _ _ _
  refine wpAny_bind (wpAny_field hz rfl (x := .bool false) rfl ?_)
  show wpAny _ _ (field (.ref z) 3 >>= _) _ _ _
  refine wpAny_bind (wpAny_field hz rfl (x := .ref TI) rfl (wpAny_bind (wpAny_seqItems hTI rfl ?_)))
  show wpAny _ _ (Builtin.SmallTypes.ownedTupleIsFree (.ref z) >>= _) _ _ _
  refine wpAny_bind (wpAny_tupleHeld_zip hz hT fun h₁ hz₁ hs₁ => ?_)
  simp only [Bool.false_eq_true, if_false]
  refine wpAny_bind ?_
  rw [← Array.forIn_toList]
  simp only [List.forIn_cons, List.forIn_nil]
  refine wpAny_bind (wpAny_bind (wpAny_holding ?_))
  show wpAny _ _ (Builtin.SmallTypes.nextOf (.ref i1) >>= _) _ _ _
  refine wpAny_bind (D1.item i _ _ _ l1 (D1.over st1 hs₁ S.zf1) fun x h₂ tk2 px st1' hs₂ => wpAny_pure (wpAny_pure ?_))
  refine wpAny_bind (wpAny_bind (wpAny_holding ?_))
  show wpAny _ _ (Builtin.SmallTypes.nextOf (.ref i2) >>= _) _ _ _
  refine wpAny_bind (D2.item i _ _ _ l2 (D2.over (D2.over st2 hs₁ S.zf2) hs₂ S.sep1_2) fun y h₃ tk3 py st2' hs₃ => wpAny_pure (wpAny_pure (wpAny_pure ?_)))
  show wpAny _ _ (newTuple [x, y] >>= _) _ _ _
  refine wpAny_bind (wpAny_newTuple ?_)
  have hsz : h₃.objs.size = s.heap.objs.size := by rw [hs₃.1, hs₂.1, hs₁.1]
  have kp : ∀ c o, c ≠ z → c ≠ i1 → c ≠ i2 → s.heap.get? c = some o → h₃.get? c = some o := fun c o c1 c2 c3 e => hs₃.extBut _ _ c3 (hs₂.extBut _ _ c2 (hs₁.extBut _ _ c1 e))
  have hz₃ : IsZipHeld h₃ z TI TO T true := hs₃.extBut _ _ S.zi2 (hs₂.extBut _ _ S.zi1 hz₁)
  have st1₃ := D1.over st1' hs₃ S.sep2_1
  have up : ∀ c o, h₃.get? c = some o → (h₃.push { cls := .type "tuple", data := .seq #[x, y] }).get? c = some o := fun c o e => Heap.get?_push_of_some _ e
  have hp : IsTupOf2 (h₃.push { cls := .type "tuple", data := .seq #[x, y] }) h₃.objs.size x y := Heap.get?_push_size _ rfl
  refine wpAny_pure ⟨_, rfl, ?_⟩
  show Q (.ref h₃.objs.size) _
  rw [hsz] at hp ⊢
  exact hQ x y _ tk3 px py (up _ _ hz₃) (D1.frame _ _ _ st1₃ fun b _ o e => up b o e) (D2.frame _ _ _ st2' fun b _ o e => up b o e) hp fun c o c1 c2 c3 e => up c o (kp c o c1 c2 c3 e)
theorem zipH_end {Q : Fin → Shared → Prop} (S : ZipSep2 z TI TO i1 i2 fp1 fp2) (D1 : Draws prog w A i1 fp1 n1 P1 St1) (D2 : Draws prog w A i2 fp2 n2 P2 St2)
    (hz : IsZipHeld s.heap z TI TO T f) (hT : s.heap.get? T = some oT) (hTI : IsTupOf2 s.heap TI (.ref i1) (.ref i2)) (st1 : St1 i s.heap) (st2 : St2 i s.heap) (l1 : i ≤ n1) (l2 : i ≤ n2) (he : i = n1 ∨ i = n2)
    (hE : ∀ h' tk e, (∀ c o, c ≠ z → c ≠ i1 → c ≠ i2 → s.heap.get? c = some o → h'.get? c = some o) → (∃ o, h'.get? e = some o ∧ o.cls = .type "StopIteration") → E (.ref e) { s with heap := h', toks := tk }) :
    wpAny (model prog w) A (Builtin.«zip.__next__» ⟨[.ref z], []⟩) Q E s := by
  show wpAny _ _ (field (.ref z) 2 >>= _) _ _ _
  refine wpAny_bind (wpAny_field hz rfl (x := .bool false) rfl ?_)
  show wpAny _ _ (field (.ref z) 3 >>= _) _ _ _
  refine wpAny_bind (wpAny_field hz rfl (x := .ref TI) rfl (wpAny_bind (wpAny_seqItems hTI rfl ?_)))
  show wpAny _ _ (Builtin.SmallTypes.ownedTupleIsFree (.ref z) >>= _) _ _ _
  refine wpAny_bind (wpAny_tupleHeld_zip hz hT fun h₁ hz₁ hs₁ => ?_)
  simp only [Bool.false_eq_true, if_false]
  refine wpAny_bind ?_
  rw [← Array.forIn_toList]
  simp only [List.forIn_cons, List.forIn_nil]
  refine wpAny_bind (wpAny_bind (wpAny_holding ?_))
  show wpAny _ _ (Builtin.SmallTypes.nextOf (.ref i1) >>= _) _ _ _
  by_cases h1 : i = n1
  · subst h1
    refine wpAny_bind (D1.done _ _ _ (D1.over st1 hs₁ S.zf1) fun h₂ e hs₂ hx => ?_)
    exact hE h₂ _ e (fun c o c1 c2 c3 q => hs₂ _ _ c2 (hs₁.extBut _ _ c1 q)) hx
  · refine wpAny_bind (D1.item i _ _ _ (by omega) (D1.over st1 hs₁ S.zf1) fun x h₂ tk2 px st1' hs₂ => wpAny_pure (wpAny_pure ?_))
    refine wpAny_bind (wpAny_bind (wpAny_holding ?_))
    show wpAny _ _ (Builtin.SmallTypes.nextOf (.ref i2) >>= _) _ _ _
    have h2 : i = n2 := by omega
    subst h2
    refine wpAny_bind (D2.done _ _ _ (D2.over (D2.over st2 hs₁ S.zf2) hs₂ S.sep1_2) fun h₃ e hs₃ hx => ?_)
    exact hE h₃ _ e (fun c o c1 c2 c3 q => hs₃ _ _ c3 (hs₂.extBut _ _ c2 (hs₁.extBut _ _ c1 q))) hx
theorem nextH_item {Q : Option Value → Shared → Prop} (S : ZipSep2 z TI TO i1 i2 fp1 fp2) (D1 : Draws prog w A.in1 i1 fp1 n1 P1 St1) (D2 : Draws prog w A.in1 i2 fp2 n2 P2 St2)
    (hz : IsZipHeld s.heap z TI TO T f) (hT : s.heap.get? T = some oT) (hTI : IsTupOf2 s.heap TI (.ref i1) (.ref i2)) (st1 : St1 i s.heap) (st2 : St2 i s.heap) (l1 : i < n1) (l2 : i < n2)
    (hQ : ∀ x y h' tk, P1 i x → P2 i y → IsZipHeld h' z TI TO T true → St1 (i + 1) h' → St2 (i + 1) h' → IsTupOf2 h' s.heap.objs.size x y →
      (∀ c o, c ≠ z → c ≠ i1 → c ≠ i2 → s.heap.get? c = some o → h'.get? c = some o) → Q (some (.ref s.heap.objs.size)) { s with heap := h', toks := tk }) : wpAny (model prog w) A (pyNext (.ref z)) Q E s := by
  have ty : s.TypeIs (.ref z) "zip" := ⟨_, hz, rfl⟩
  unfold pyNext
  refine wpAny_bind (wpAny_attempt (wpAny_callSpecial?_slot (name := Str.ofString "__next__") ty F.slot_zip_next ?_))
  exact wpAny_call_entry F.slot_zip_next ty F.entry_zip_next (zipH_item S D1 D2 hz hT hTI st1 st2 l1 l2 fun x y h' tk a1 a2 a3 a4 a5 a6 a7 => wpAny_pure (hQ x y h' tk a1 a2 a3 a4 a5 a6 a7)) (F.args_zip_next_1 _)
theorem nextH_end {Q : Option Value → Shared → Prop} (S : ZipSep2 z TI TO i1 i2 fp1 fp2) (D1 : Draws prog w A.in1 i1 fp1 n1 P1 St1) (D2 : Draws prog w A.in1 i2 fp2 n2 P2 St2)
    (hz : IsZipHeld s.heap z TI TO T f) (hT : s.heap.get? T = some oT) (hTI : IsTupOf2 s.heap TI (.ref i1) (.ref i2)) (st1 : St1 i s.heap) (st2 : St2 i s.heap) (l1 : i ≤ n1) (l2 : i ≤ n2) (he : i = n1 ∨ i = n2)
    (hQ : ∀ h' tk, (∀ c o, c ≠ z → c ≠ i1 → c ≠ i2 → s.heap.get? c = some o → h'.get? c = some o) → Q none { s with heap := h', toks := tk }) : wpAny (model prog w) A (pyNext (.ref z)) Q E s := by
  have ty : s.TypeIs (.ref z) "zip" := ⟨_, hz, rfl⟩
  unfold pyNext
  refine wpAny_bind (wpAny_attempt (wpAny_callSpecial?_slot (name := Str.ofString "__next__") ty F.slot_zip_next ?_))
  refine wpAny_call_entry F.slot_zip_next ty F.entry_zip_next (zipH_end S D1 D2 hz hT hTI st1 st2 l1 l2 he fun h' tk e hk ⟨o, ho, hc⟩ => ?_) (F.args_zip_next_1 _)
  refine wpAny_bind (wpAny_isInstance (T := "StopIteration") (b := true) ⟨o, ho, hc⟩ isSubtype_stop ?_)
  exact wpAny_pure (hQ _ _ hk)
theorem zip_no_len : typeLookup (.type "zip") "__len__" = pure none := am_miss_of_fast (by decide +kernel)
theorem zip_no_hint : typeLookup (.type "zip") "__length_hint__" = pure none := am_miss_of_fast (by decide +kernel)
end
/-! ### list(zip(a, b)) -/
/-- the walk of a zip into a list, i turns done -/
structure ZSt (t u : Bool) (z TI TO i1 i2 a b S : Addr) (its its2 : Array Value) (i : Nat) (h : Heap) : Prop where
  ti : IsTupOf2 h TI (.ref i1) (.ref i2)
  st1 : ItrK t h i1 a i ∧ ObK t h a its
  st2 : ItrK u h i2 b i ∧ ObK u h b its2
  zz : (IsZip h z TI TO .none ∧ ∃ x y, IsTupOf2 h TO x y) ∨ ∃ T f oT, IsZipHeld h z TI TO T f ∧ h.get? T = some oT ∧ T ≠ z ∧ T ≠ i1 ∧ T ≠ i2 ∧ T ≠ S
theorem ZSt.frame {t u : Bool} {z TI TO i1 i2 a b S : Addr} {its its2 : Array Value} {i : Nat} {h h' : Heap} (x : ZSt t u z TI TO i1 i2 a b S its its2 i h) (n : S ∉ [z, TI, TO, i1, i2, a, b]) (k : ∀ c o, c ≠ S → h.get? c = some o → h'.get? c = some o) : ZSt t u z TI TO i1 i2 a b S its its2 i h' := by
  simp only [List.mem_cons, List.not_mem_nil, or_false, not_or] at n
  obtain ⟨n1, n2, n3, n4, n5, n6, n7⟩ := n
  have ob : ∀ {t : Bool} {c : Addr} {its : Array Value}, S ≠ c → ObK t h c its → ObK t h' c its := fun {t c its} ne x => by
    cases t with
    | true => obtain ⟨o, e, r⟩ := x; exact ⟨o, k c o (Ne.symm ne) e, r⟩
    | false => obtain ⟨o, e, r⟩ := x; exact ⟨o, k c o (Ne.symm ne) e, r⟩
  refine ⟨k _ _ (Ne.symm n2) x.ti, ⟨x.st1.1.at fun o e => k _ o (Ne.symm n4) e, ob n6 x.st1.2⟩, ⟨x.st2.1.at fun o e => k _ o (Ne.symm n5) e, ob n7 x.st2.2⟩, ?_⟩
  rcases x.zz with ⟨hz, p, q, hO⟩ | ⟨T, f, oT, hz, hT, r1, r2, r3, r4⟩
  · exact .inl ⟨k _ _ (Ne.symm n1) hz, p, q, k _ _ (Ne.symm n3) hO⟩
  · exact .inr ⟨T, f, oT, k _ _ (Ne.symm n1) hz, k _ _ r4 hT, r1, r2, r3, r4⟩
section
variable {X : Cx} {pins : List (Addr × Obj)} {σ : L2.St} {H₀ F₀ : Hp} {β : List Addr} {t u : Bool} {z TI TO i1 i2 a b S : Addr} {its its2 : List Value} {xs ys : List V}
/-- one turn: the pair, or the end -/
theorem zst_next {A : Around} {E : Value → Shared → Prop} {s : Shared} {i : Nat} {Q : Option Value → Shared → Prop} (hh : A.in1.handled = none) (D : ZipSep2 z TI TO i1 i2 [i1, a] [i2, b]) (da : a ≠ i1) (db : b ≠ i2) (hS : S < s.heap.objs.size) (hSn : S ∉ [z, TI, TO, i1, i2, a, b])
    (x : ZSt t u z TI TO i1 i2 a b S its.toArray its2.toArray i s.heap)
    (item : ∀ v w h' tk, its[i]? = some v → its2[i]? = some w → IsTupOf2 h' s.heap.objs.size v w → ZSt t u z TI TO i1 i2 a b S its.toArray its2.toArray (i + 1) h' → (∀ c o, c ∉ [z, TI, TO, i1, i2] → s.heap.get? c = some o → h'.get? c = some o) → Q (some (.ref s.heap.objs.size)) { s with heap := h', toks := tk })
    (done : (its[i]? = none ∨ its2[i]? = none) → ∀ h' tk, (∀ c o, c ∉ [z, TI, TO, i1, i2] → s.heap.get? c = some o → h'.get? c = some o) → Q none { s with heap := h', toks := tk }) :
    wpAny (model X.prog X.w) A (pyNext (.ref z)) Q E s := by
  obtain ⟨ti, st1, st2, zz⟩ := x
  have out : ∀ {c : Addr}, c ∉ [z, TI, TO, i1, i2] → c ≠ z ∧ c ≠ TO ∧ c ≠ i1 ∧ c ≠ i2 := fun {c} hc => by
    simp only [List.mem_cons, List.not_mem_nil, or_false, not_or] at hc
    exact ⟨hc.1, hc.2.2.1, hc.2.2.2.1, hc.2.2.2.2⟩
  have new : ∀ {c : Addr} {o : Obj}, s.heap.get? c = some o → s.heap.objs.size ≠ c := fun {c o} e => Nat.ne_of_gt (Heap.lt_size e)
  have ni1 : s.heap.objs.size ≠ i1 := by obtain ⟨_, e, _⟩ := st1.1.obj; exact new e
  have ni2 : s.heap.objs.size ≠ i2 := by obtain ⟨_, e, _⟩ := st2.1.obj; exact new e
  by_cases hend : its[i]? = none ∨ its2[i]? = none
  · obtain ⟨n1, P1, S1, D1, s1, le1, en1⟩ := drawsAt t (prog := X.prog) (w := X.w) (A := A.in1) hh i1 a da its.toArray i st1.1 st1.2
    obtain ⟨n2, P2, S2, D2, s2, le2, en2⟩ := drawsAt u (prog := X.prog) (w := X.w) (A := A.in1) hh i2 b db its2.toArray i st2.1 st2.2
    have he : i = n1 ∨ i = n2 := by
      rcases hend with q | q
      · exact .inl (en1 (by simpa using q))
      · exact .inr (en2 (by simpa using q))
    rcases zz with ⟨hz, p, q, hO⟩ | ⟨T, f, oT, hz, hT, r1, r2, r3, r4⟩
    · exact wpAny_pyNext_zipD2_end D D1 D2 hz ti hO s1 s2 le1 le2 he fun h' tk hk => done hend h' tk fun c o hc e => let ⟨c1, c2, c3, c4⟩ := out hc; hk c o c1 c2 c3 c4 e
    · exact nextH_end D D1 D2 hz hT ti s1 s2 le1 le2 he fun h' tk hk => done hend h' tk fun c o hc e => let ⟨c1, _, c3, c4⟩ := out hc; hk c o c1 c3 c4 e
  · rw [not_or] at hend
    obtain ⟨v, hv⟩ := Option.ne_none_iff_exists'.mp hend.1
    obtain ⟨w, hw⟩ := Option.ne_none_iff_exists'.mp hend.2
    have D1 := drawsK t (prog := X.prog) (w := X.w) (A := A.in1) hh i1 a da its.toArray
    have D2 := drawsK u (prog := X.prog) (w := X.w) (A := A.in1) hh i2 b db its2.toArray
    have l1 : i < its.toArray.size := (List.getElem?_eq_some_iff.mp hv).1
    have l2 : i < its2.toArray.size := (List.getElem?_eq_some_iff.mp hw).1
    have eqs : ∀ {v' w' : Value}, its.toArray[i]? = some v' → its2.toArray[i]? = some w' → v' = v ∧ w' = w := fun {v' w'} e1 e2 => by
      rw [List.getElem?_toArray] at e1 e2
      rw [hv] at e1; rw [hw] at e2
      cases e1; cases e2
      exact ⟨rfl, rfl⟩
    rcases zz with ⟨hz, p, q, hO⟩ | ⟨T, f, oT, hz, hT, r1, r2, r3, r4⟩
    · refine wpAny_pyNext_zipD2_item D D1 D2 hz ti hO st1 st2 l1 l2 fun v' w' h' tk e1 e2 a1 a2 a3 a4 a5 a6 hk => ?_
      obtain ⟨rfl, rfl⟩ := eqs e1 e2
      exact item _ _ h' tk hv hw a5 ⟨hk _ _ D.TIz D.TITO D.TIi1 D.TIi2 ti, a3, a4, .inr ⟨s.heap.objs.size, false, _, a1, a5, new hz, ni1, ni2, Nat.ne_of_gt hS⟩⟩ fun c o hc e => let ⟨c1, c2, c3, c4⟩ := out hc; hk c o c1 c2 c3 c4 e
    · refine nextH_item D D1 D2 hz hT ti st1 st2 l1 l2 fun v' w' h' tk e1 e2 a1 a3 a4 a5 hk => ?_
      obtain ⟨rfl, rfl⟩ := eqs e1 e2
      exact item _ _ h' tk hv hw a5 ⟨hk _ _ D.TIz D.TIi1 D.TIi2 ti, a3, a4, .inr ⟨T, true, oT, a1, hk _ _ r1 r2 r3 hT, r1, r2, r3, r4⟩⟩ fun c o hc e => let ⟨c1, _, c3, c4⟩ := out hc; hk c o c1 c3 c4 e
end
end MP
end

section
set_option Elab.async false
set_option linter.all false
set_option maxRecDepth 100000
set_option maxHeartbeats 4000000
namespace MP
open PySem PySem.Spec L2 PyProof.Rows
theorem zipD_at : ∀ {a b : List D} {i : Nat} {x y : D}, a[i]? = some x → b[i]? = some y → (zipD a b)[i]? = some (.tup [x, y])
  | p :: a, q :: b, 0, x, y, h1, h2 => by
    cases (show p = x by simpa using h1)
    cases (show q = y by simpa using h2)
    rfl
  | p :: a, q :: b, i + 1, x, y, h1, h2 => by
    show (zipD a b)[i]? = _
    exact zipD_at (by simpa using h1) (by simpa using h2)
theorem zipD_end : ∀ {a b : List D} {i : Nat}, a[i]? = none ∨ b[i]? = none → (zipD a b).take i = zipD a b
  | [], b, i, _ => by simp [zipD]
  | _ :: _, [], i, _ => by simp [zipD]
  | p :: a, q :: b, 0, h => by simp at h
  | p :: a, q :: b, i + 1, h => by
    show (D.tup [p, q] :: zipD a b).take (i + 1) = D.tup [p, q] :: zipD a b
    rw [List.take_succ_cons, zipD_end (by simpa using h)]
section
variable {X : Cx} {pins : List (Addr × Obj)} {σ : L2.St} {H₀ F₀ : Hp} {β : List Addr} {t u : Bool} {z TI TO i1 i2 a b S : Addr} {its its2 : List Value} {xs ys : List V} {ds es : List D} {h₀ : Hh}
theorem loopZ {A : Around} {R : Result → Shared → Prop} (hh : A.in1.in1.handled = none) (D : ZipSep2 z TI TO i1 i2 [i1, a] [i2, b]) (da : a ≠ i1) (db : b ≠ i2) (hSn : S ∉ [z, TI, TO, i1, i2, a, b]) (hx : Vals xs its) (hy : Vals ys its2) (wx : VRs X.K F₀ β ds xs) (wy : VRs X.K F₀ β es ys) (sm0 : Same F₀ H₀) (gd : Good X.K F₀ β h₀) (hz : xs.length ≤ sizeLine)
    (fin : ∀ (H F : Hp) (s : Shared) (acc : List V), L2.Inv X pins σ H s → H S = some (.lst acc) → PStep F₀ H₀ F H → F S = none → VRs X.K F β (zipD ds es) acc → R (.ok (.ret .none)) s) :
    ∀ (k i : Nat) (s : Shared) (H F : Hp) (acc : List V), ds.length - i = k → i ≤ ds.length → L2.Inv X pins σ H s → (∀ c ∈ [z, TI, TO, i1, i2], FpOk X pins H c) → (∀ c ∈ [z, TI, TO, i1, i2], c < s.heap.objs.size) → ZSt t u z TI TO i1 i2 a b S its.toArray its2.toArray i s.heap → H S = some (.lst acc) → acc.length = i → PStep F₀ H₀ F H → F S = none → H₀ S = none → VRs X.K F β ((zipD ds es).take i) acc →
      codeAny (model X.prog X.w) A (.builtin "list.extend.loop" ⟨[.ref S, .ref z, .none], []⟩) R s := by
  intro k
  induction k with
  | zero =>
    intro i s H F acc hk hi I hf hlt st hS hl ps fS h0S w
    refine codeAny_builtin PySem.F.entry_extend_loop ?_
    rw [Around.under_plainId PySem.F.plain_extend_loop _]
    show wpAny _ A.in1 (pyNext (.ref z) >>= _) _ _ s
    have ei : its[i]? = none := by rw [List.getElem?_eq_none_iff, ← hx.length, wx.len]; omega
    obtain ⟨_, _, _, _, _, eS⟩ := I.lstM hS
    refine wpAny_bind (zst_next (X := X) hh D da db (Heap.lt_size eS) hSn st (fun v w h' tk e1 _ _ _ _ => ?_) fun he h' tk kp => ?_)
    · rw [ei] at e1; cases e1
    · have he : ds[i]? = none := by rw [List.getElem?_eq_none_iff]; omega
      rw [zipD_end (.inl he)] at w
      exact wpAny_pure (fin H F _ acc (I.turnedL (t' := tk) (ch := [z, TI, TO, i1, i2]) (fun c o hb q => kp c o hb q) hf) hS ps fS w)
  | succ k ih =>
    intro i s H F acc hk hi I hf hlt st hS hl ps fS h0S w
    refine codeAny_builtin PySem.F.entry_extend_loop ?_
    rw [Around.under_plainId PySem.F.plain_extend_loop _]
    show wpAny _ A.in1 (pyNext (.ref z) >>= _) _ _ s
    obtain ⟨hzS, itsS, nS, rS, lS, eS⟩ := I.lstM hS
    refine wpAny_bind (zst_next (X := X) hh D da db (Heap.lt_size eS) hSn st (fun v w' h' tk e1 e2 hT st' kp => ?_) fun he h' tk kp => ?_)
    · obtain ⟨x, hxi, rx⟩ : ∃ x, xs[i]? = some x ∧ RelV x v := by
        have hi' : i < xs.length := by rw [hx.length]; exact (List.getElem?_eq_some_iff.mp e1).1
        obtain ⟨v2, q1, q2⟩ := hx.get (List.getElem?_eq_getElem hi')
        rw [e1] at q1; cases q1
        exact ⟨_, List.getElem?_eq_getElem hi', q2⟩
      obtain ⟨y, hyi, ry⟩ : ∃ y, ys[i]? = some y ∧ RelV y w' := by
        have hi' : i < ys.length := by rw [hy.length]; exact (List.getElem?_eq_some_iff.mp e2).1
        obtain ⟨v2, q1, q2⟩ := hy.get (List.getElem?_eq_getElem hi')
        rw [e2] at q1; cases q1
        exact ⟨_, List.getElem?_eq_getElem hi', q2⟩
      have new : ObjOk X.prog X.w (upd H s.heap.objs.size (.tup [x, y])) h' s.heap.objs.size (.tup [x, y]) :=
        ⟨by show 2 ≤ sizeLine; decide, [v, w'], .cons rx (.cons ry .nil), ⟨_, hT, rfl, _, rfl⟩⟩
      have I1 : L2.Inv X pins σ (upd H s.heap.objs.size (.tup [x, y])) { s with heap := h', toks := tk } := I.turnedNew (ch := [z, TI, TO, i1, i2]) kp hf (Nat.le_refl _) new
      have nT : H s.heap.objs.size = none := I.hok.fresh (Nat.le_refl _)
      have hST : S ≠ s.heap.objs.size := Nat.ne_of_lt (Heap.lt_size eS)
      have hS1 : (upd H s.heap.objs.size (.tup [x, y])) S = some (.lst acc) := by rw [upd_ne hST]; exact hS
      obtain ⟨_, its1, n1, r1, l1, e1'⟩ := I1.lstM hS1
      have I2 := I1.lset (t' := tk) (its' := its1 ++ [.ref s.heap.objs.size]) (f := (·.push (.ref s.heap.objs.size))) hS1 e1' (by simp) (ys := acc ++ [.ref s.heap.objs.size]) (r1.append (show Vals [V.ref s.heap.objs.size] [Value.ref s.heap.objs.size] from .cons rfl .nil)) (by
        rw [List.length_append, List.length_singleton]
        have := (List.getElem?_eq_some_iff.mp hxi).1
        omega)
      show wpAny _ A.in1 (updateSeq S (·.push (.ref s.heap.objs.size)) >>= _) _ _ _
      refine wpAny_bind ?_
      refine wpAny_updateSeq e1' rfl (wpAny_pure ⟨plainId_quiet PySem.F.plain_extend_loop _, ih (i + 1) _ _ (upd F s.heap.objs.size (.tup [x, y])) (acc ++ [.ref s.heap.objs.size]) (by omega) (by omega) I2 (fun c hc => ?_) (fun c hc => ?_) (st'.frame hSn fun c o hc e => (Heap.get?_update_other _ _ (Ne.symm hc)).trans e) upd_same (by rw [List.length_append, hl]; rfl) ?_ ?_ h0S ?_⟩) (by rw [List.size_toArray]; omega) (by
        have := (List.getElem?_eq_some_iff.mp hxi).1
        rw [Array.size_push, List.size_toArray]; omega)
      · refine ⟨?_, (hf c hc).2⟩
        have c1 : c ≠ S := fun e => by have := (hf c hc).1; rw [e, hS] at this; cases this
        rw [upd_ne c1, upd_ne (Nat.ne_of_lt (hlt c hc))]
        exact (hf c hc).1
      · have : s.heap.objs.size < h'.objs.size := Heap.lt_size hT
        rw [show ({ heap := h', gens := s.gens, drawn := s.drawn, toks := tk, os := s.os } : Shared).heap = h' from rfl, Heap.size_update]
        exact Nat.lt_trans (hlt c hc) this
      · have nF := sm_none ps.sm nT
        refine ⟨fun c o q => ?_, fun c o q => ?_, fun c o q => ?_, fun c o q1 q2 => ?_⟩
        · have := ps.ff c o q
          rw [upd_ne (ne_of_none this nF)]; exact this
        · have := ps.hh c o q
          rw [upd_ne (ne_of_none q h0S), upd_ne (ne_of_none this nT)]; exact this
        · by_cases hc : c = s.heap.objs.size
          · subst hc
            rw [upd_same] at q
            cases q
            rw [upd_ne (Ne.symm hST), upd_same]
          · rw [upd_ne hc] at q
            rw [upd_ne (ne_of_none q fS), upd_ne hc]
            exact ps.sm c o q
        · have := ps.hh c o q2
          rw [upd_ne (ne_of_none this nT)]
          exact ps.nw c o q1 q2
      · rw [upd_ne hST]; exact fS
      · obtain ⟨d1, hd1⟩ : ∃ d, ds[i]? = some d := ⟨_, List.getElem?_eq_getElem (by omega)⟩
        obtain ⟨v1, q1, w1⟩ := wx.get hd1
        rw [hxi] at q1; cases q1
        obtain ⟨d2, hd2⟩ : ∃ d, es[i]? = some d := ⟨_, List.getElem?_eq_getElem (by rw [← wy.len]; exact (List.getElem?_eq_some_iff.mp hyi).1)⟩
        obtain ⟨v2, q2, w2⟩ := wy.get hd2
        rw [hyi] at q2; cases q2
        rw [List.take_add_one, zipD_at hd1 hd2]
        have nF := sm_none ps.sm nT
        have x0 : Ext F₀ β (upd F s.heap.objs.size (.tup [x, y])) β := ⟨fun _ _ q => q, fun c o q m => ⟨by rw [upd_ne (ne_of_none (ps.ff c o q) nF)]; exact ps.ff c o q, m⟩⟩
        have x1 : Ext F β (upd F s.heap.objs.size (.tup [x, y])) β := ⟨fun _ _ q => q, fun c o q m => ⟨by rw [upd_ne (ne_of_none q nF)]; exact q, m⟩⟩
        refine (VRs.ext x1 _ _ w).app (VRs.one ⟨s.heap.objs.size, [x, y], rfl, .inl ⟨fun m => ?_, .inl upd_same⟩, ⟨_, _, rfl, VR.ext x0 _ _ w1, ⟨_, _, rfl, VR.ext x0 _ _ w2, rfl⟩⟩⟩)
        obtain ⟨_, _, _, _, _, f, _⟩ := gd.mem m
        have := ps.ff _ _ f
        rw [nF] at this; cases this
    · have hd : ds[i]? = none ∨ es[i]? = none := by
        rcases he with q | q
        · left; rw [List.getElem?_eq_none_iff] at q ⊢; rw [← wx.len, hx.length]; exact q
        · right; rw [List.getElem?_eq_none_iff] at q ⊢; rw [← wy.len, hy.length]; exact q
      rw [zipD_end hd] at w
      exact wpAny_pure (fin H F _ acc (I.turnedL (t' := tk) (ch := [z, TI, TO, i1, i2]) (fun c o hb q => kp c o hb q) hf) hS ps fS w)
/-- list(z), z a zip that was just made -/
theorem list_zip {s s2 : Shared} {H F : Hp} {h : Hh} {Q : VK} (hc : X.calm = true) (I : L2.Inv X pins σ H s) (sm : Same F H) (gd : Good X.K F β h) (D : ZipSep2 z TI TO i1 i2 [i1, a] [i2, b]) (da : a ≠ i1) (db : b ≠ i2)
    (hx : Vals xs its) (hy : Vals ys its2) (wx : VRs X.K F β ds xs) (wy : VRs X.K F β es ys) (hzx : xs.length ≤ sizeLine)
    (I2 : L2.Inv X pins σ H s2) (hf : ∀ c ∈ [z, TI, TO, i1, i2], FpOk X pins H c) (hz : IsZip s2.heap z TI TO .none) (hTI : IsTupOf2 s2.heap TI (.ref i1) (.ref i2)) (hTO : ∃ x y, IsTupOf2 s2.heap TO x y) (h1 : ItrK t s2.heap i1 a 0) (h2 : ItrK u s2.heap i2 b 0) (oa : ObK t s2.heap a its.toArray) (ob : ObK u s2.heap b its2.toArray)
    (q : ∀ v F' H', PStep F H F' H' → RR X.K F' β H H' (.fl (zipD ds es)) v → Q v H') :
    wpAny (model X.prog X.w) X.A (call (.type "list") [.ref z]) (EP X pins σ Q) X.xe s2 := by
  have hlt : ∀ c ∈ [z, TI, TO, i1, i2, a, b], c < s2.heap.objs.size := fun c hcm => by
    have lo : ∀ {t : Bool} {c : Addr} {its : Array Value}, ObK t s2.heap c its → c < s2.heap.objs.size := fun {t c its} x => by
      cases t with
      | true => obtain ⟨o, e, _⟩ := x; exact Heap.lt_size e
      | false => obtain ⟨o, e, _⟩ := x; exact Heap.lt_size e
    have e' : c = z ∨ c = TI ∨ c = TO ∨ c = i1 ∨ c = i2 ∨ c = a ∨ c = b := by simpa using hcm
    obtain ⟨p, r, hTO⟩ := hTO
    rcases e' with q | q | q | q | q | q | q
    · rw [q]; exact Heap.lt_size hz
    · rw [q]; exact Heap.lt_size hTI
    · rw [q]; exact Heap.lt_size hTO
    · rw [q]; obtain ⟨_, e1, _⟩ := h1.obj; exact Heap.lt_size e1
    · rw [q]; obtain ⟨_, e2, _⟩ := h2.obj; exact Heap.lt_size e2
    · rw [q]; exact lo oa
    · rw [q]; exact lo ob
  have ty : ∀ {g : Heap} {tk : Nat}, g.get? z = some { cls := .type "zip", data := .fields #[.none, .bool false, .bool false, .ref TI, .ref TO] } → Shared.TypeIs { s2 with heap := g, toks := tk } (.ref z) "zip" := fun {g tk} e => ⟨_, e, rfl⟩
  refine callType_codes (Q₁ := fun obj s₁ => obj = .ref s2.heap.objs.size ∧ s₁ = { s2 with heap := s2.heap.push { cls := .type "list", data := .seq #[] } }) PySem.F.called_list (PySem.F.typeCall_list_1 _) PySem.F.entry_list_init (code_list_new _ ⟨rfl, rfl⟩) fun obj s₁ h₁ => ?_
  obtain ⟨rfl, rfl⟩ := h₁
  have hS : (s2.heap.push { cls := .type "list", data := .seq #[] }).get? s2.heap.objs.size = some { cls := .type "list", data := .seq #[] } := Heap.get?_push_size _ rfl
  refine ⟨⟨_, hS, rfl⟩, PySem.F.args_list_init_2 _ _, ?_⟩
  have nS : H s2.heap.objs.size = none := I2.hok.fresh (Nat.le_refl _)
  have hSn : s2.heap.objs.size ∉ [z, TI, TO, i1, i2, a, b] := fun m => Nat.lt_irrefl _ (hlt _ m)
  have hSz : s2.heap.objs.size ≠ z := fun e => hSn (by rw [e]; simp)
  -- the list is tracked from its start
  have J0 : L2.Inv X pins σ (upd H s2.heap.objs.size (.lst [])) { s2 with heap := s2.heap.push { cls := .type "list", data := .seq #[] } } :=
    I2.laid (t' := s2.toks) (fun b o e => Heap.get?_push_of_some _ e) (Nat.le_refl _) ⟨Nat.zero_le _, [], 0, .nil, hS⟩
  show wpAny _ _ (do let old ← Builtin.List.listItems (.ref s2.heap.objs.size); Builtin.List.listUpdate (.ref s2.heap.objs.size) (fun _ => #[]); letGo old.toList.reverse; Builtin.List.listExtendWith (.ref s2.heap.objs.size) (.ref z) .none) _ _ _
  refine wpAny_bind ?_
  unfold Builtin.List.listItems
  refine wpAny_bind (wpAny_seqItems hS rfl (wpAny_pure ?_))
  show wpAny _ _ (updateSeq s2.heap.objs.size (fun _ => #[]) >>= fun _ => letGo (#[] : Array Value).toList.reverse >>= fun _ => Builtin.List.listExtendWith (.ref s2.heap.objs.size) (.ref z) .none) _ _ _
  have J1 := J0.lset (t' := s2.toks) (its := []) (its' := []) (ys := []) (f := fun _ => #[]) upd_same hS rfl .nil (Nat.zero_le _)
  refine wpAny_bind (wpAny_updateSeq hS rfl ?_)
  have hS₂ := Heap.get?_update_self (Obj.mapSeq (fun _ => (#[] : Array Value))) hS rfl
  refine wpAny_bind (wpAny_letGo ?_)
  have hz1 : ((s2.heap.push { cls := .type "list", data := .seq #[] }).update s2.heap.objs.size (Obj.mapSeq fun _ => #[])).get? z = some { cls := .type "zip", data := .fields #[.none, .bool false, .bool false, .ref TI, .ref TO] } := (Heap.get?_update_other _ _ hSz).trans (Heap.get?_push_of_some _ hz)
  unfold Builtin.List.listExtendWith
  refine wpAny_bind (wpAny_typeOf (T := "zip") (ty hz1) ?_)
  have g1 : Builtin.List.listSameRef (.ref s2.heap.objs.size) (.ref z) = false := by simp [Builtin.List.listSameRef, hSz]
  have g2 : (Value.type "zip" == Value.type "list") = false := by decide
  have g3 : (Value.type "zip" == Value.type "tuple") = false := by decide
  simp only [g1, g2, g3, Bool.or_false, Bool.false_eq_true, if_false]
  refine wpAny_bind (wpAny_pyIter_zip hz1 ?_)
  refine wpAny_bind (wpAny_holding ?_)
  unfold Builtin.List.listLengthHint
  refine wpAny_bind (wpAny_specialOf (ty hz1) zip_no_len ?_)
  show wpAny _ _ (specialOf (Value.ref z) (Str.ofString "__length_hint__") >>= _) _ _ _
  refine wpAny_bind (wpAny_specialOf (ty hz1) zip_no_hint (wpAny_pure ?_))
  show wpAny _ _ (rule "list.extend.makes-room" >>= fun _ => Builtin.List.listTouch (.ref s2.heap.objs.size) >>= fun _ => again (.builtin "list.extend.loop" ⟨[.ref s2.heap.objs.size, .ref z, .none], []⟩)) _ _ _
  refine wpAny_bind (wpAny_rule (wpAny_bind ?_))
  show wpAny _ _ (updateSeq s2.heap.objs.size (·.push .none) >>= fun _ => updateSeq s2.heap.objs.size (·.pop)) _ _ _
  have J2 := J1.lset (t' := s2.toks) (its := []) (its' := [.none]) (ys := [.non]) (f := (·.push Value.none)) upd_same hS₂ rfl (show Vals [V.non] [Value.none] from .cons rfl .nil) (by decide)
  refine wpAny_bind (wpAny_updateSeq hS₂ rfl ?_)
  have hS₃ := Heap.get?_update_self (Obj.mapSeq (·.push Value.none)) hS₂ rfl
  have J3 := J2.lset (t' := s2.toks) (its := [.none]) (its' := []) (ys := []) (f := (·.pop)) upd_same hS₃ rfl .nil (Nat.zero_le _)
  refine wpAny_updateSeq (hz := by seq_fits) hS₃ rfl ?_
  have hS₄ := Heap.get?_update_self (Obj.mapSeq (·.pop)) hS₃ rfl
  have oth : ∀ c o, c ≠ s2.heap.objs.size → s2.heap.get? c = some o → ((((s2.heap.push { cls := .type "list", data := .seq #[] }).update s2.heap.objs.size (Obj.mapSeq fun _ => #[])).update s2.heap.objs.size (Obj.mapSeq (·.push Value.none))).update s2.heap.objs.size (Obj.mapSeq (·.pop))).get? c = some o := fun c o ne e =>
    (Heap.get?_update_other _ _ (Ne.symm ne)).trans ((Heap.get?_update_other _ _ (Ne.symm ne)).trans ((Heap.get?_update_other _ _ (Ne.symm ne)).trans (Heap.get?_push_of_some _ e)))
  have ups : ∀ (H : Hp) (o1 o2 : HO), upd (upd H s2.heap.objs.size o1) s2.heap.objs.size o2 = upd H s2.heap.objs.size o2 := fun H o1 o2 => by
    funext c
    by_cases e : c = s2.heap.objs.size
    · subst e; rw [upd_same, upd_same]
    · rw [upd_ne e, upd_ne e, upd_ne e]
  rw [ups, ups, ups] at J3
  have zst : ZSt t u z TI TO i1 i2 a b s2.heap.objs.size its.toArray its2.toArray 0 s2.heap := ⟨hTI, ⟨h1, oa⟩, ⟨h2, ob⟩, .inl ⟨hz, hTO⟩⟩
  refine wpAny_pure ⟨plainId_quiet PySem.F.plain_extend_loop _, loopZ (A := X.A.in1) (t := t) (u := u) (I2.ok.hd hc) D da db hSn hx hy wx wy sm gd hzx (fun H' F' s' acc I' e' ps' f' w' => ?_) _ 0 _ _ F [] rfl (Nat.zero_le _) J3 (fun c hcm => ?_) (fun c hcm => ?_) (zst.frame hSn oth) upd_same rfl (.hidden sm nS) (sm_none sm nS) nS rfl⟩
  · exact ⟨rfl, .ref s2.heap.objs.size, H', I', rfl, q _ F' H' ps' ⟨_, acc, rfl, nS, f', e', w'⟩⟩
  · have hcm' : c ∈ [z, TI, TO, i1, i2, a, b] := by
      simp only [List.mem_cons, List.not_mem_nil, or_false] at hcm ⊢
      rcases hcm with e | e | e | e | e <;> simp [e]
    exact ⟨by rw [upd_ne (Nat.ne_of_lt (hlt c hcm'))]; exact (hf c hcm).1, (hf c hcm).2⟩
  · have hcm' : c ∈ [z, TI, TO, i1, i2, a, b] := by
      simp only [List.mem_cons, List.not_mem_nil, or_false] at hcm ⊢
      rcases hcm with e | e | e | e | e <;> simp [e]
    rw [Heap.size_update, Heap.size_update, Heap.size_update, Heap.size_push]
    exact Nat.lt_succ_of_lt (hlt c hcm')
end
end MP
end

section
set_option Elab.async false
set_option linter.all false
set_option maxRecDepth 100000
set_option maxHeartbeats 4000000
namespace MP
open PySem PySem.Spec L2 PyProof.Rows
section
variable {X : Cx} {e e2 : Expr} {d d2 : Den} {p p2 pos q : Pos} {x : Str}
theorem sqk_of {K : Kf} {H : Hp} {a : Addr} {ws : List V} (h : SqL K H a ws ∨ SqT K H a ws) : ∃ t, SqK t K H a ws := by
  rcases h with h | h
  · exact ⟨false, h⟩
  · exact ⟨true, h⟩
theorem pd_lzip (hc : X.calm = true) (hg : Gl X "list") (hm : X.mg "list" = none) (hg2 : Gl X "zip") (hm2 : X.mg "zip" = none) (he : PE X e (tD X.K d)) (he2 : PE X e2 (tD X.K d2)) (hs : isStar e = false) (hs2 : isStar e2 = false) :
    PE X (.Call (.Name "list" p) [.Call (.Name "zip" p2) [e, e2] [] q] [] pos) (tD X.K (kBi .lzip (kCons d (kCons d2 kNil)))) := by
  refine ⟨fun pins s σ H Q I ⟨F, β, h, en, sm, gd, se, post⟩ => ?_⟩
  have e0 : kBi .lzip (kCons d (kCons d2 kNil)) en h = (d en h).bind fun r h => (d2 en h).bind fun r2 h => ofO (bLzip [r, r2] h) h := by
    unfold kBi kCons kNil
    cases d en h with
    | ok r h1 => simp only [Out.bind]; cases d2 en h1 <;> rfl
    | _ => rfl
  rw [e0] at post
  have hb : tCons (tD X.K d) (tCons (tD X.K d2) tNil) σ H (fun vs H1 => ∃ t u a b xs ys F1 β1 h1 ds es, vs = [.ref a, .ref b] ∧ Same F1 H1 ∧ Good X.K F1 β1 h1 ∧ SqK t X.K H1 a xs ∧ SqK u X.K H1 b ys ∧ VRs X.K F1 β1 ds xs ∧ VRs X.K F1 β1 es ys ∧
      ∀ v F' H', PStep F1 H1 F' H' → RR X.K F' β1 H1 H' (.fl (zipD ds es)) v → Q v H') := by
    refine bindE sm gd se post fun r v F1 β1 H1 h1 sm1 st1 gd1 se1 rr1 post1 => ?_
    refine bindE sm1 gd1 se1 post1 fun r2 v2 F2 β2 H2 h2 sm2 st2 gd2 se2 rr2 post2 => ?_
    unfold ofO at post2
    split at post2
    case h_2 => exact post2.elim
    rename_i r' e'
    have e' : (match viewS h2 r, viewS h2 r2 with
      | some a, some b => if line (a.length + b.length) then some (R.fl (zipD a b)) else none
      | _, _ => none) = some r' := e'
    split at e'
    case h_2 => cases e'
    rename_i ds es eds ees
    split at e'
    case isFalse => cases e'
    cases e'
    obtain ⟨a, xs, rfl, q1, w1⟩ := viewS_of sm2 gd2 (rr1.rv.step st2) eds
    obtain ⟨b, ys, rfl, q2, w2⟩ := viewS_of sm2 gd2 rr2.rv ees
    obtain ⟨t, q1⟩ := sqk_of q1
    obtain ⟨u, q2⟩ := sqk_of q2
    exact ⟨t, u, a, b, xs, ys, F2, β2, h2, ds, es, rfl, sm2, gd2, q1, q2, w1, w2, fun v F' H' ps rr => post2 v F' β2 H' ps.sm ps.step (gd2.more ps.ff) rr⟩
  have ha : PA X [e, e2] (tCons (tD X.K d) (tCons (tD X.K d2) tNil)) := pa_cons he (pa_cons he2 pa_nil (star_cons _ _ _ hs2)) (star_cons _ _ _ hs)
  refine Call_ (ld_blt I hg hm PyProof.Rows.boot_list ?_)
  refine PyProof.Rows.callWith_type1 (PyProof.Rows.args_cons ?_ rfl) rfl rfl
  refine Call_ (ld_blt I hg2 hm2 PyProof.Rows.boot_zip (PyProof.Rows.callWith_type1 (thn (ha.run q pins s σ H _ I hb) fun us s1 ⟨vs, H1, I1, r1, t, u, a, b, xs, ys, F1, β1, h1, ds, es, ex, sm1, gd1, hqx, hqy, w1, w2, k⟩ => ?_) (star_cons _ _ _ hs) (star_back _ _ _ (by rw [List.all_cons, hs2]; rfl))))
  subst ex
  cases r1 with
  | cons r rr =>
  cases rr with
  | cons r' rr =>
  cases rr
  cases r
  cases r'
  obtain ⟨its, rv, p1, la, hz1⟩ := sqk_obj I1 hqx
  obtain ⟨its2, rv2, p2', lb, _⟩ := sqk_obj I1 hqy
  refine zip_begins2 (beginsK t a its.toArray) (beginsK u b its2.toArray) p1 p2' fun h' hz hTI hTO z1 z2 hsz hk => PyProof.Rows.args_nil ?_
  have I2 : L2.Inv X pins σ H1 { s1 with heap := h' } := I1.kept (t' := s1.toks) hk
  have D := zip_sep2 (N := s1.heap.objs.size) (fp1 := [a]) (fp2 := [b]) (fun c hc => by rw [List.mem_singleton] at hc; rw [hc]; exact la) (fun c hc => by rw [List.mem_singleton] at hc; rw [hc]; exact lb)
  have ob : ∀ {t : Bool} {c : Addr} {its : Array Value}, ObK t s1.heap c its → ObK t h' c its := fun {t c its} x => by
    cases t with
    | true => obtain ⟨o, e, r⟩ := x; exact ⟨o, hk c o e, r⟩
    | false => obtain ⟨o, e, r⟩ := x; exact ⟨o, hk c o e, r⟩
  refine list_zip (t := t) (u := u) hc I1 sm1 gd1 D (Nat.ne_of_lt la) (Nat.ne_of_lt (Nat.lt_succ_of_lt lb)) rv rv2 w1 w2 hz1 I2 (fun c hcm => fp_of I1 ?_) hz hTI ⟨_, _, hTO⟩ (.new z1) (.new z2) (ob p1) (ob p2') k
  simp only [List.mem_cons, List.not_mem_nil, or_false] at hcm
  rcases hcm with z | z | z | z | z
  · rw [z]; exact Nat.le_add_right _ _
  · rw [z]; exact Nat.le_add_right _ _
  · rw [z]; exact Nat.le_add_right _ _
  · rw [z]; exact Nat.le_refl _
  · rw [z]; exact Nat.le_add_right _ _
end
end MP
end

section
set_option Elab.async false
set_option linter.all false
set_option maxRecDepth 100000
set_option maxHeartbeats 4000000
namespace MP
open PySem PySem.Spec L2 PyProof.Rows
/-! ### targets -/
/-- all slots but these stay -/
def Keeps (vs : List Nat) (σ σ' : L2.St) : Prop := σ'.length = σ.length ∧ ∀ j, j ∉ vs → σ'[j]? = σ[j]?
theorem Keeps.refl {vs : List Nat} {σ : L2.St} : Keeps vs σ σ := ⟨rfl, fun _ _ => rfl⟩
theorem Keeps.trans {vs : List Nat} {σ σ1 σ2 : L2.St} (a : Keeps vs σ σ1) (b : Keeps vs σ1 σ2) : Keeps vs σ σ2 := ⟨b.1.trans a.1, fun j h => (b.2 j h).trans (a.2 j h)⟩
theorem wipe_at (σ : L2.St) : ∀ (vs : List Nat) (j : Nat), (L2.wipe σ vs)[j]? = if j ∈ vs then (if j < σ.length then some none else none) else σ[j]?
  | [], j => by simp [L2.wipe]
  | v :: vs, j => by
    unfold L2.wipe
    by_cases h : j = v
    · subst h
      by_cases hl : j < σ.length
      · rw [List.getElem?_set_self (by rw [L2.wipe_length]; exact hl)]; simp [hl]
      · rw [List.getElem?_eq_none (by rw [List.length_set, L2.wipe_length]; omega)]; simp [hl]
    · rw [List.getElem?_set_ne (Ne.symm h), wipe_at σ vs j]
      simp [h]
theorem Keeps.wipe {vs : List Nat} {σ σ' : L2.St} (k : Keeps vs σ σ') : L2.wipe σ' vs = L2.wipe σ vs := by
  apply List.ext_getElem?
  intro j
  rw [wipe_at, wipe_at, k.1]
  by_cases h : j ∈ vs
  · simp [h]
  · simp [h, k.2 j h]
theorem Keeps.wipe2 {vs : List Nat} {σ σ' : L2.St} (k : Keeps vs (L2.wipe σ vs) σ') : L2.wipe σ' vs = L2.wipe σ vs := by
  have := k.wipe
  rw [this]
  apply List.ext_getElem?
  intro j
  rw [wipe_at, wipe_at, L2.wipe_length]
  by_cases h : j ∈ vs <;> simp [h]
def PostG (K : Kf) (vs : List Nat) (σ0 : L2.St) (F : Hp) (β : List Addr) (H : Hp) (o : Out En) (Q : L2.St → Hp → Prop) : Prop := match o with
  | .ok en' h' => ∀ F' β' H' σ', Same F' H' → Step F β H F' β' H' → Good K F' β' h' → SimE K F' β' en' σ' → Keeps vs σ0 σ' → Q σ' H'
  | _ => False
def tG (K : Kf) (vs : List Nat) (d : DenT) : TG := fun v σ H Q => ∃ F β h F0 β0 H₀ en r, Same F0 H₀ ∧ Step F0 β0 H₀ F β H ∧ Same F H ∧ Good K F β h ∧ SimE K F β en σ ∧ RR K F β H₀ H r v ∧ PostG K vs σ F0 β0 H₀ (d en r h) Q
def tGs (K : Kf) (vs : List Nat) (d : DenTs) : TGs := fun ws σ H Q => ∃ F β h en ds, Same F H ∧ Good K F β h ∧ SimE K F β en σ ∧ VRs K F β ds ws ∧ PostG K vs σ F β H (d en ds h) Q
section
variable {K : Kf} {F F' H H' F1 H1 : Hp} {β β' β1 : List Addr} {h : Hh} {en : En} {σ : L2.St}
theorem PostG.shift {vs : List Nat} {o : Out En} {Q : L2.St → Hp → Prop} (sm : Same F H) (s : Step F β H F1 β1 H1) (p : PostG K vs σ F β H o Q) : PostG K vs σ F1 β1 H1 o Q := by
  cases o with
  | ok r h' => exact fun F' β' H' σ' sm' s' g' se kk => p F' β' H' σ' sm' (Step.trans sm s s') g' se kk
  | er e h => exact p
  | no => exact p
theorem SimE.set {i : Nat} {d : D} {v : V} (s : SimE K F β en σ) (r : VR K F β d v) : SimE K F β (en.set i (some d)) (σ.set i (some v)) := by
  refine ⟨by rw [List.length_set, List.length_set]; exact s.len, fun j x e => ?_⟩
  by_cases hj : j = i
  · subst hj
    by_cases hl : j < en.length
    · rw [List.getElem?_set_self hl] at e
      cases e
      exact ⟨v, by rw [List.getElem?_set_self (by rw [← s.len]; exact hl)], r⟩
    · rw [List.getElem?_eq_none (by rw [List.length_set]; omega)] at e; cases e
  · rw [List.getElem?_set_ne (Ne.symm hj)] at e
    obtain ⟨w, q1, q2⟩ := s.at_ j x e
    exact ⟨w, by rw [List.getElem?_set_ne (Ne.symm hj)]; exact q1, q2⟩
theorem SimE.wipe : ∀ {vs : List Nat}, SimE K F β en σ → SimE K F β (wipeE en vs) (wipe σ vs)
  | [], s => s
  | v :: vs, s => by
    have ih := SimE.wipe (vs := vs) s
    unfold wipeE L2.wipe
    refine ⟨by rw [List.length_set, List.length_set]; exact ih.len, fun j x e => ?_⟩
    by_cases hj : j = v
    · subst hj
      by_cases hl : j < (wipeE en vs).length
      · rw [List.getElem?_set_self hl] at e; cases e
      · rw [List.getElem?_eq_none (by rw [List.length_set]; omega)] at e; cases e
    · rw [List.getElem?_set_ne (Ne.symm hj)] at e
      obtain ⟨w, q1, q2⟩ := ih.at_ j x e
      exact ⟨w, by rw [List.getElem?_set_ne (Ne.symm hj)]; exact q1, q2⟩
end
section
variable {X : Cx} {pos p p2 : Pos} {x : Str} {e e2 o i : Expr} {es : List Expr} {d d2 dO dI' : Den} {g : DenT} {gs : DenTs} {vs : List Nat}
theorem pg_Nm {i : Nat} (hv : i ∈ vs) (hN : X.N.Nodup) (hi : X.N[i]? = some x) (hx : Loc X.env.scope x) (hf : X.fn x = true ∨ X.env.scope.names.lookup x = some .local) : PG X (.Name x pos) (tG X.K vs (kNm i)) := by
  refine PG_weak (pg_name hN hi hx hf) fun v σ H Q ⟨F, β, h, F0, β0, H₀, en, r, sm0, st, sm, gd, se, rr, post⟩ => ?_
  unfold kNm at post
  split at post
  case isFalse => exact post.elim
  obtain ⟨F2, k1, k2, k3, k4, _⟩ := freeze1 sm0 st sm gd rr
  have x2 : Ext F β F2 β := ⟨fun _ _ z => z, fun b o z m => ⟨k1 b o z, m⟩⟩
  exact post F2 β H _ k2 k3 (gd.more k1) ((se.ext x2).set k4) ⟨by rw [List.length_set], fun j hj => by rw [List.getElem?_set_ne]; exact fun e => hj (e ▸ hv)⟩
theorem pgs_Nil : PGs X [] (tGs X.K vs kTnil) := by
  refine ⟨fun pins s σ H ws us Q I r ⟨F, β, h, en, ds, sm, gd, se, w, post⟩ => ?_⟩
  unfold kTnil at post
  split at post
  · cases w
    exact pgs_nil.run pins s σ H [] us Q I r ⟨rfl, post F β H σ sm .refl gd se .refl⟩
  · exact post.elim
theorem pgs_Cons {t : Expr} {ts : List Expr} (h1 : PG X t (tG X.K vs g)) (h2 : PGs X ts (tGs X.K vs gs)) (hs : isStar t = false) : PGs X (t :: ts) (tGs X.K vs (kTcons g gs)) := by
  have ha : (assignEach (t :: ts) X.env).map (·.2) = assign t X.env :: (assignEach ts X.env).map (·.2) := by cases t <;> first | rfl | cases hs
  refine ⟨fun pins s σ H ws us Q I r ⟨F, β, h, en, ds, sm, gd, se, w, post⟩ => ?_⟩
  unfold kTcons at post
  split at post
  case h_2 => exact post.elim
  rename_i d ds
  obtain ⟨v, vr, rfl, w1, w2⟩ := w
  refine (pgs_cons h1 h2 ha).run pins s σ H _ us Q I r ⟨v, vr, rfl, F, β, h, F, β, H, en, .d d, sm, .refl, sm, gd, se, w1, ?_⟩
  cases hg : g en (.d d) h with
  | er e h => rw [hg] at post; exact post
  | no => rw [hg] at post; exact post
  | ok en1 h1 =>
    rw [hg] at post
    intro F1 β1 H1 σ1 sm1 st1 gd1 se1 kk1
    refine ⟨F1, β1, h1, en1, ds, sm1, gd1, se1, VRs.ext st1.ext _ _ w2, ?_⟩
    replace post : PostG X.K vs σ F β H (gs en1 ds h1) Q := post
    cases hgs : gs en1 ds h1 with
    | er e h => rw [hgs] at post; exact post
    | no => rw [hgs] at post; exact post
    | ok en2 h2 =>
      rw [hgs] at post
      exact fun F' β' H' σ' sm' s' g' se' kk => post F' β' H' σ' sm' (Step.trans sm st1 s') g' se' (kk1.trans kk)
theorem tlen {gs : DenTs} {n : Nat} (hn : ∀ en ds h en' h', gs en ds h = .ok en' h' → ds.length = n) {en : En} {ds : List D} {h : Hh} {K : Kf} {F H : Hp} {β : List Addr} {σ : L2.St} {Q : L2.St → Hp → Prop} (p : PostG K vs σ F β H (gs en ds h) Q) : ds.length = n :=
  by
    cases hg : gs en ds h with
    | ok en' h' => exact hn en ds h en' h' hg
    | er e h => rw [hg] at p; exact p.elim
    | no => rw [hg] at p; exact p.elim
theorem pg_Tp {ts : List Expr} {k n : Nat} (hc : X.calm = true) (h : PGs X ts (tGs X.K vs gs)) (hs : ts.all (fun e => !isStar e) = true) (hn : ts.length = n) (hl : ∀ en ds h en' h', gs en ds h = .ok en' h' → ds.length = n) : PG X (.Tuple ts k pos) (tG X.K vs (kTp gs)) := by
  have a1 : ∀ ts : List Expr, ts.all (fun e => !isStar e) = true → (assignEach ts X.env).length = ts.length ∧ (assignEach ts X.env).findIdx? (·.1) = none := fun ts => by
    induction ts with
    | nil => exact fun _ => ⟨rfl, rfl⟩
    | cons t r ih =>
      intro hs
      rw [List.all_cons, Bool.and_eq_true] at hs
      obtain ⟨i1, i2⟩ := ih hs.2
      have e1 : assignEach (t :: r) X.env = (false, assign t X.env) :: assignEach r X.env := by
        have := hs.1
        cases t <;> first | rfl | simp [isStar] at this
      rw [e1]
      refine ⟨by rw [List.length_cons, List.length_cons, i1], ?_⟩
      rw [List.findIdx?_cons]
      simp [i2]
  obtain ⟨b1, b2⟩ := a1 ts hs
  refine PG_weak (pg_tup (n := n) hc h (b1.trans hn) b2) fun v σ H Q ⟨F, β, h, F0, β0, H₀, en, r, sm0, st, sm, gd, se, rr, post⟩ => ?_
  unfold kTp at post
  split at post
  case h_2 => exact post.elim
  rename_i ds hd
  obtain ⟨a, ws, rfl, q, _, w⟩ := viewT_of (K := X.K) sm rr.rv hd
  exact ⟨a, ws, rfl, q, by rw [w.len]; exact tlen hl post, F, β, h, en, ds, sm, gd, se, w, PostG.shift sm0 st post⟩
theorem pg_Sb (ho : PE X o (tD X.K dO)) (hi : PE X i (tD X.K dI')) (ha : ∀ v, assign (.Subscript o i pos) X.env v = (do
      let ov ← holding [v] (eval o X.env)
      let iv ← holding [v, ov] (eval i X.env)
      standAt pos
      holding [v, ov, iv] (setItem ov iv v)
      release [v, ov, iv] [])) : PG X (.Subscript o i pos) (tG X.K vs (kSb dO dI')) := by
  refine PG_weak (pg_sub ho hi set_list ha) fun v σ H Q ⟨F, β, h, F0, β0, H₀, en, r, sm0, st, sm, gd, se, rr, post⟩ => ?_
  obtain ⟨F2, k1, k2, k3, k4, _⟩ := freeze1 sm0 st sm gd rr
  have x2 : Ext F β F2 β := ⟨fun _ _ z => z, fun b o z m => ⟨k1 b o z, m⟩⟩
  have gd2 := gd.more k1
  replace post := PostG.shift sm0 k3 post
  unfold kSb at post
  refine ⟨F2, β, h, en, k2, gd2, se.ext x2, ?_⟩
  cases hd : dO en h with
  | er e h => rw [hd] at post; exact post
  | no => rw [hd] at post; exact post
  | ok ro h1 =>
  rw [hd] at post
  intro vo F3 β3 H3 sm3 st3 gd3 rr3
  replace post : PostG X.K vs σ F2 β H ((dI' en h1).bind fun y h => sbOut r.toD en ro y h) Q := post
  refine ⟨F3, β3, h1, en, sm3, gd3, (se.ext x2).ext st3.ext, ?_⟩
  cases hd2 : dI' en h1 with
  | er e h => rw [hd2] at post; exact post
  | no => rw [hd2] at post; exact post
  | ok ri h2 =>
  rw [hd2] at post
  intro vi F4 β4 H4 sm4 st4 gd4 rr4
  replace post : PostG X.K vs σ F2 β H (sbOut r.toD en ro ri h2) Q := post
  unfold sbOut at post
  split at post
  case h_2 => exact post.elim
  rename_i n kk
  unfold setAt at post
  split at post
  case h_2 => exact post.elim
  rename_i ds hn
  split at post
  case h_2 => exact post.elim
  rename_i j hj
  split at post
  case isFalse => exact post.elim
  rename_i hlow
  obtain ⟨a, ea, rfl⟩ := rr3
  cases (show vi = .int kk from rr4)
  have ea4 : β4[n]? = some a := st4.ext.pre n a ea
  obtain ⟨xs, f, w, lo⟩ := gd4.at_ ea4 hn
  have kv := VR.ext st4.ext _ _ (VR.ext st3.ext _ _ k4)
  have lo2 : lowAll n (ds.set j r.toD) = true := by
    have : ∀ (l : List D) (j : Nat), lowAll n l = true → lowAll n (l.set j r.toD) = true := fun l => by
      induction l with
      | nil => intro j h; simpa using h
      | cons y l ih =>
        intro j h
        unfold lowAll at h
        rw [Bool.and_eq_true] at h
        cases j with
        | zero => show (lowD n r.toD && lowAll n l) = true; rw [hlow, h.2]; rfl
        | succ j => show (lowD n y && lowAll n (l.set j r.toD)) = true; rw [h.1, ih j h.2]; rfl
    exact this ds j lo
  obtain ⟨c1, c2, c3, c4⟩ := change k2 (Step.trans k2 st3 st4) sm4 gd4 ea4 f (VRs.set kv j w) lo2
  refine ⟨a, xs, kk, j, rfl, rfl, sm4 _ _ f, by rw [w.len]; exact hj, ?_⟩
  exact post _ _ _ σ c1 c2 c3 ((((se.ext x2).ext st3.ext).ext st4.ext).ext c4) .refl
end
end MP
end

section
set_option Elab.async false
set_option linter.all false
set_option maxRecDepth 100000
set_option maxHeartbeats 4000000
namespace MP
open PySem PySem.Spec L2 PyProof.Rows
/-! ### statements -/
def PostS (K : Kf) (F : Hp) (β : List Addr) (H : Hp) (o : Out Fl) (D : Ends) : Prop := match o with
  | .ok (.nx en') h' => ∀ F' β' H' σ', Same F' H' → Step F β H F' β' H' → Good K F' β' h' → SimE K F' β' en' σ' → D.nx σ' H'
  | .ok (.rt r) h' => ∀ v F' β' H', Same F' H' → Step F β H F' β' H' → Good K F' β' h' → RR K F' β' H H' r v → D.rt v H'
  | _ => False
def tS (K : Kf) (d : DenS) : TS := fun D σ H => ∃ F β h en, Same F H ∧ Good K F β h ∧ SimE K F β en σ ∧ PostS K F β H (d en h) D
section
variable {K : Kf} {F F' H H' F1 H1 : Hp} {β β' β1 : List Addr} {h : Hh} {en : En} {σ : L2.St}
theorem PostS.shift {o : Out Fl} {D : Ends} (sm : Same F H) (s : Step F β H F1 β1 H1) (sm1 : Same F1 H1) (p : PostS K F β H o D) : PostS K F1 β1 H1 o D := by
  match o, p with
  | .ok (.nx en') h', p => exact fun F' β' H' σ' sm' s' g' se => p F' β' H' σ' sm' (Step.trans sm s s') g' se
  | .ok (.rt r) h', p => exact fun v F' β' H' sm' s' g' rr => p v F' β' H' sm' (Step.trans sm s s') g' (rr.back sm s sm1)
theorem bindS {a : Den} {f : R → Hh → Out Fl} {D : Ends} {k : V → Hp → Prop} (sm : Same F H) (gd : Good K F β h) (se : SimE K F β en σ) (post : PostS K F β H ((a en h).bind f) D)
    (hk : ∀ r v F1 β1 H1 h1, Same F1 H1 → Step F β H F1 β1 H1 → Good K F1 β1 h1 → SimE K F1 β1 en σ → RR K F1 β1 H H1 r v → PostS K F β H (f r h1) D → k v H1) : tD K a σ H k := by
  refine ⟨F, β, h, en, sm, gd, se, ?_⟩
  cases ha : a en h with
  | ok r h1 =>
    rw [ha] at post
    exact fun v F1 β1 H1 sm1 s1 g1 rr => hk r v F1 β1 H1 h1 sm1 s1 g1 (se.ext s1.ext) rr post
  | er e h1 => rw [ha] at post; exact post
  | no => rw [ha] at post; exact post
theorem bindTS {a : Den} {f : Bool → Hh → Out Fl} {D : Ends} {k : Bool → Hp → Prop} (sm : Same F H) (gd : Good K F β h) (se : SimE K F β en σ) (post : PostS K F β H ((kTest a en h).bind f) D)
    (hk : ∀ b F1 β1 H1 h1, Same F1 H1 → Step F β H F1 β1 H1 → Good K F1 β1 h1 → SimE K F1 β1 en σ → PostS K F1 β1 H1 (f b h1) D → k b H1) : tT K a σ H k :=
  bindT (P := fun F β H o => PostS K F β H o D) sm gd se post (fun z => z) (fun _ _ z => z) (fun _ _ _ _ s sm1 p => p.shift sm s sm1) hk
end
section
variable {X : Cx} {pos p p2 : Pos} {x : Str} {e e2 tg iter : Expr} {es : List Expr} {d d2 dt : Den} {g : DenT} {it : DenI} {sd sd2 : DenS} {vs : List Nat} {st : Stmt} {body sts a b : List Stmt}
theorem asg_weak : ∀ D σ H, tS X.K (kAsg g d) D σ H → tAsg (tD X.K d) (tG X.K vs g) D σ H := fun D σ H ⟨F, β, h, en, sm, gd, se, post⟩ => by
  refine bindS sm gd se post fun r v F1 β1 H1 h1 sm1 st1 gd1 se1 rr1 post1 => ⟨F1, β1, h1, F, β, H, en, r, sm, st1, sm1, gd1, se1, rr1, ?_⟩
  cases hg : g en r h1 with
  | er e h => rw [hg] at post1; exact post1
  | no => rw [hg] at post1; exact post1
  | ok en1 h2 =>
    rw [hg] at post1
    exact fun F' β' H' σ' sm' s' g' se' _ => post1 F' β' H' σ' sm' s' g' se'
theorem ps_Asg (he : PE X e (tD X.K d)) (hg : PG X tg (tG X.K vs g)) (hs : swapsWithSole [tg] e pos.line X.env = pure false) (hw : swappedStores [tg] e X.env = pure none) (hst : isStar tg = false) : PS X (.Assign [tg] e pos) (tS X.K (kAsg g d)) :=
  PS_weak (ps_asg he hg hs hw (by cases tg <;> first | rfl | cases hst)) asg_weak
theorem two_eq {i j : Nat} (en : En) (ds : List D) (h : Hh) : kTcons (kNm i) (kTcons (kNm j) kTnil) en ds h = .no ∨ ∃ a b, ds = [a, b] ∧ kTcons (kNm i) (kTcons (kNm j) kTnil) en ds h = .ok ((en.set i (some a)).set j (some b)) h := by
  match ds with
  | [] => exact .inl rfl
  | [a] =>
    by_cases hi : i < en.length
    · left; simp [kTcons, kNm, hi, Out.bind]
    · left; simp [kTcons, kNm, hi, Out.bind]
  | a :: b :: r =>
    by_cases hi : i < en.length
    · by_cases hj : j < en.length
      · cases r with
        | nil => right; exact ⟨a, b, rfl, by simp [kTcons, kNm, hi, hj, Out.bind, kTnil, R.toD]⟩
        | cons c r => left; simp [kTcons, kNm, hi, hj, Out.bind, kTnil, R.toD]
      · left; simp [kTcons, kNm, hi, hj, Out.bind, kTnil]
    · left; simp [kTcons, kNm, hi, Out.bind]
theorem three_eq {i j l : Nat} (en : En) (ds : List D) (h : Hh) : kTcons (kNm i) (kTcons (kNm j) (kTcons (kNm l) kTnil)) en ds h = .no ∨ ∃ a b c, ds = [a, b, c] ∧ kTcons (kNm i) (kTcons (kNm j) (kTcons (kNm l) kTnil)) en ds h = .ok (((en.set i (some a)).set j (some b)).set l (some c)) h := by
  cases ds with
  | nil => exact .inl rfl
  | cons a ds =>
    by_cases hi : i < en.length
    · have e : kTcons (kNm i) (kTcons (kNm j) (kTcons (kNm l) kTnil)) en (a :: ds) h = kTcons (kNm j) (kTcons (kNm l) kTnil) (en.set i (some a)) ds h := by simp [kTcons, kNm, hi, Out.bind, R.toD]
      rw [e]
      rcases two_eq (i := j) (j := l) (en.set i (some a)) ds h with q | ⟨b, c, rfl, q⟩
      · exact .inl q
      · exact .inr ⟨a, b, c, rfl, q⟩
    · left; simp [kTcons, kNm, hi, Out.bind]
theorem par_weak {da : DenL} {i j : Nat} : ∀ D σ H, tS X.K (kAsg (kTp (kTcons (kNm i) (kTcons (kNm j) kTnil))) (kTup da)) D σ H → tPar i j (tL X.K da) D σ H := fun D σ H ⟨F, β, h, en, sm, gd, se, post⟩ => by
  refine ⟨F, β, h, en, sm, gd, se, ?_⟩
  unfold kAsg kTup at post
  cases hd : da en h with
  | er e h => rw [hd] at post; exact post
  | no => rw [hd] at post; exact post
  | ok rs h1 =>
  rw [hd] at post
  intro us F1 β1 H1 sm1 st1 gd1 rr1 nd1
  obtain ⟨F2, k1, k2, k3, k4⟩ := freezeAll sm st1 sm1 gd1 rr1 nd1
  simp only at post
  split at post
  case isFalse => exact post.elim
  replace post : PostS X.K F β H ((kTcons (kNm i) (kTcons (kNm j) kTnil) en (rs.map R.toD) h1).bind fun en h => .ok (.nx en) h) D := post
  have x2 : Ext F1 β1 F2 β1 := ⟨fun _ _ z => z, fun b o z m => ⟨k1 b o z, m⟩⟩
  have se2 := (se.ext st1.ext).ext x2
  rcases two_eq (i := i) (j := j) en (rs.map R.toD) h1 with q | ⟨a, b, ea, q⟩
  · rw [q] at post; exact post.elim
  · rw [q] at post
    rw [ea] at k4
    obtain ⟨v1, _, rfl, w1, v2, _, rfl, w2, rfl⟩ := k4
    exact ⟨v1, v2, rfl, post F2 β1 H1 _ k2 k3 (gd1.more k1) ((se2.set w1).set w2)⟩
theorem par3_weak {da : DenL} {i j l : Nat} : ∀ D σ H, tS X.K (kAsg (kTp (kTcons (kNm i) (kTcons (kNm j) (kTcons (kNm l) kTnil)))) (kTup da)) D σ H → tPar3 i j l (tL X.K da) D σ H := fun D σ H ⟨F, β, h, en, sm, gd, se, post⟩ => by
  refine ⟨F, β, h, en, sm, gd, se, ?_⟩
  unfold kAsg kTup at post
  cases hd : da en h with
  | er e h => rw [hd] at post; exact post
  | no => rw [hd] at post; exact post
  | ok rs h1 =>
  rw [hd] at post
  intro us F1 β1 H1 sm1 st1 gd1 rr1 nd1
  obtain ⟨F2, k1, k2, k3, k4⟩ := freezeAll sm st1 sm1 gd1 rr1 nd1
  simp only at post
  split at post
  case isFalse => exact post.elim
  replace post : PostS X.K F β H ((kTcons (kNm i) (kTcons (kNm j) (kTcons (kNm l) kTnil)) en (rs.map R.toD) h1).bind fun en h => .ok (.nx en) h) D := post
  have x2 : Ext F1 β1 F2 β1 := ⟨fun _ _ z => z, fun b o z m => ⟨k1 b o z, m⟩⟩
  have se2 := (se.ext st1.ext).ext x2
  rcases three_eq (i := i) (j := j) (l := l) en (rs.map R.toD) h1 with q | ⟨a, b, c, ea, q⟩
  · rw [q] at post; exact post.elim
  · rw [q] at post
    rw [ea] at k4
    obtain ⟨v1, _, rfl, w1, v2, _, rfl, w2, v3, _, rfl, w3, rfl⟩ := k4
    exact ⟨v1, v2, v3, rfl, post F2 β1 H1 _ k2 k3 (gd1.more k1) (((se2.set w1).set w2).set w3)⟩
theorem ps_Exp (he : PE X e (tD X.K d)) (hs : swapsWith e none pos.line X.env = pure false) : PS X (.Expr e pos) (tS X.K (kExp d)) :=
  PS_weak (ps_expr he hs) fun D σ H ⟨F, β, h, en, sm, gd, se, post⟩ => bindS sm gd se post fun r v F1 β1 H1 h1 sm1 st1 gd1 se1 rr1 post1 => post1 F1 β1 H1 σ sm1 st1 gd1 se1
theorem ps_Ret (he : PE X e (tD X.K d)) : PS X (.Return (some e) pos) (tS X.K (kRet d)) :=
  PS_weak (ps_ret he) fun D σ H ⟨F, β, h, en, sm, gd, se, post⟩ => bindS sm gd se post fun r v F1 β1 H1 h1 sm1 st1 gd1 se1 rr1 post1 => post1 v F1 β1 H1 sm1 st1 gd1 rr1
theorem ps_RetN : PS X (.Return none pos) (tS X.K (kRet (kC .non))) :=
  PS_weak ps_retN fun D σ H ⟨F, β, h, en, sm, gd, se, post⟩ => post .non F β H sm .refl gd rfl
theorem ps_Pass : PS X (.Pass pos) (tS X.K kPass) := PS_weak ps_pass fun D σ H ⟨F, β, h, en, sm, gd, se, post⟩ => post F β H σ sm .refl gd se
theorem ps_Raise : PS X st (tS X.K kRaise) := PS_weak ps_never fun D σ H ⟨F, β, h, en, sm, gd, se, post⟩ => post
theorem iteS_eq {en : En} {h : Hh} : kIteS dt sd sd2 en h = (kTest dt en h).bind fun b h => match b with | true => sd en h | false => sd2 en h := by
  unfold kTest kIteS
  rw [out_bind_assoc]
  congr 1
  funext x h1
  cases e : truth h1 x with
  | none => rfl
  | some b => cases b <;> rfl
theorem ps_Ite (hc : PT X e (tT X.K dt)) (ha : PSs X a (tS X.K sd)) (hb : PSs X b (tS X.K sd2)) : PS X (.If e a b pos) (tS X.K (kIteS dt sd sd2)) := by
  refine PS_weak (ps_if hc ha hb) fun D σ H ⟨F, β, h, en, sm, gd, se, post⟩ => ?_
  rw [iteS_eq] at post
  refine bindTS sm gd se post fun k F1 β1 H1 h1 sm1 st1 gd1 se1 post1 => ?_
  cases k with
  | true => rw [if_pos rfl]; exact ⟨F1, β1, h1, en, sm1, gd1, se1, post1⟩
  | false => rw [if_neg (by decide)]; exact ⟨F1, β1, h1, en, sm1, gd1, se1, post1⟩
theorem pss_Nil : PSs X [] (tS X.K kPass) := PSs_weak pss_nil fun D σ H ⟨F, β, h, en, sm, gd, se, post⟩ => post F β H σ sm .refl gd se
theorem pss_Cons (h1 : PS X st (tS X.K sd)) (h2 : PSs X sts (tS X.K sd2)) : PSs X (st :: sts) (tS X.K (kSeq sd sd2)) := by
  refine PSs_weak (pss_cons h1 h2) fun D σ H ⟨F, β, h, en, sm, gd, se, post⟩ => ⟨F, β, h, en, sm, gd, se, ?_⟩
  unfold kSeq at post
  cases hd : sd en h with
  | er e h => rw [hd] at post; exact post
  | no => rw [hd] at post; exact post
  | ok f h1 =>
    rw [hd] at post
    cases f with
    | nx en1 => exact fun F1 β1 H1 σ1 sm1 st1 gd1 se1 => ⟨F1, β1, h1, en1, sm1, gd1, se1, PostS.shift sm st1 sm1 post⟩
    | rt r => exact post
end
end MP
end

section
set_option Elab.async false
set_option linter.all false
set_option maxRecDepth 100000
set_option maxHeartbeats 4000000
namespace MP
open PySem PySem.Spec L2 PyProof.Rows
section
variable {X : Cx} {pos p p2 spos : Pos} {x : Str} {e e2 tg iter elt c : Expr} {es ifs : List Expr} {d d2 dt de : Den} {g : DenT} {it : DenI} {sd : DenS} {vs : List Nat} {body : List Stmt} {di : En → Hh → Out Bool}
theorem ps_While (hp : PassesOwn (model X.prog X.w) X.A X.env X.xe) (hc : PT X c (tT X.K dt)) (hb : PSs X body (tS X.K sd)) : PS X (.While c body [] pos) (tS X.K (kWhile dt sd)) := by
  refine PS_weak (ps_while hp hc hb) fun D σ H ⟨F, β, h, en, sm, gd, se, post⟩ => ?_
  refine ⟨fun m σ' H' => ∃ F' β' h' en', Same F' H' ∧ Step F β H F' β' H' ∧ Good X.K F' β' h' ∧ SimE X.K F' β' en' σ' ∧ PostS X.K F β H (whileLoop (kTest dt) sd m en' h') D, ⟨FUEL, F, β, h, en, sm, .refl, gd, se, post⟩, ?_⟩
  rintro m σ1 H1 ⟨F1, β1, h1, en1, sm1, st1, gd1, se1, post1⟩
  cases m with
  | zero => exact post1.elim
  | succ m =>
  unfold whileLoop at post1
  refine ⟨F1, β1, h1, en1, sm1, gd1, se1, ?_⟩
  cases ht : kTest dt en1 h1 with
  | er e h => rw [ht] at post1; exact post1.elim
  | no => rw [ht] at post1; exact post1.elim
  | ok b h2 =>
  rw [ht] at post1
  intro F2 β2 H2 sm2 st2 gd2
  have st := Step.trans sm st1 st2
  have se2 := se1.ext st2.ext
  cases b with
  | false =>
    rw [if_neg (by decide)]
    exact post1 F2 β2 H2 σ1 sm2 st gd2 se2
  | true =>
    rw [if_pos rfl]
    simp only at post1
    refine ⟨fun σ' H' => ∃ F' β' h' en', Same F' H' ∧ Step F β H F' β' H' ∧ Good X.K F' β' h' ∧ SimE X.K F' β' en' σ' ∧ PostS X.K F β H (whileLoop (kTest dt) sd m en' h') D, fun σ' H' w => ⟨m, Nat.lt_succ_self m, w⟩, F2, β2, h2, en1, sm2, gd2, se2, ?_⟩
    cases hs : sd en1 h2 with
    | er e h => rw [hs] at post1; exact post1.elim
    | no => rw [hs] at post1; exact post1.elim
    | ok f h3 =>
      rw [hs] at post1
      cases f with
      | nx en3 => exact fun F3 β3 H3 σ3 sm3 st3 gd3 se3 => ⟨F3, β3, h3, en3, sm3, Step.trans sm st st3, gd3, se3, post1⟩
      | rt r => exact fun v F3 β3 H3 sm3 st3 gd3 rr3 => post1 v F3 β3 H3 sm3 (Step.trans sm st st3) gd3 (rr3.back sm st sm2)
theorem ps_For (hp : PassesOwn (model X.prog X.w) X.A X.env X.xe) (hc : X.calm = true) (hi : PI X tg iter (tI X.K it)) (hg : PG X tg (tG X.K vs g)) (hb : PSs X body (tS X.K sd)) (hs : ∀ x, foldedSetIterable iter X.env x = pure x) : PS X (.For tg iter body [] pos) (tS X.K (kFor g it sd)) := by
  refine PS_weak (ps_for hp hc hi hg hb hs) fun D σ H ⟨F, β, h, en, sm, gd, se, post⟩ => ⟨F, β, h, en, sm, gd, se, ?_⟩
  unfold kFor at post
  cases hit : it en h with
  | er e h => rw [hit] at post; exact post
  | no => rw [hit] at post; exact post
  | ok c0 h1 =>
  rw [hit] at post
  intro J F1 β1 H1 sm1 st1 gd1 ci1
  refine ⟨fun i m σ' H' => ∃ F' β' h' en' c', Same F' H' ∧ Step F β H F' β' H' ∧ Good X.K F' β' h' ∧ SimE X.K F' β' en' σ' ∧ CI X.K J i c' F' β' ∧ PostS X.K F β H (forLoop (fun d en h => (g en (.d d) h).bind fun en h => sd en h) m c' en' h') D, ⟨FUEL, F1, β1, h1, en, c0, sm1, st1, gd1, se.ext st1.ext, ci1, post⟩, ?_⟩
  rintro i m σ2 H2 ⟨F2, β2, h2, en2, c2, sm2, st2, gd2, se2, ci2, post2⟩
  cases m with
  | zero => exact post2.elim
  | succ m =>
  unfold forLoop at post2
  have z := ci2.now sm2 gd2
  cases hn : next c2 h2 with
  | stuck => rw [hn] at post2; exact post2.elim
  | stop =>
    rw [hn] at post2 z
    exact .inl ⟨z, post2 F2 β2 H2 σ2 sm2 st2 gd2 se2⟩
  | it d c3 =>
    rw [hn] at post2 z
    simp only at post2
    refine .inr ⟨z.1, fun σ' H' => ∃ F' β' h' en' c', Same F' H' ∧ Step F β H F' β' H' ∧ Good X.K F' β' h' ∧ SimE X.K F' β' en' σ' ∧ CI X.K J (i + 1) c' F' β' ∧ PostS X.K F β H (forLoop (fun d en h => (g en (.d d) h).bind fun en h => sd en h) m c' en' h') D, fun σ' H' w => ⟨m, Nat.lt_succ_self m, w⟩, fun x H3 y => ?_⟩
    obtain ⟨F3, ps3, r3, ci3⟩ := z.2 x H3 y
    have st3 := Step.trans sm st2 (ps3.step (β := β2))
    refine ⟨F3, β2, h2, F3, β2, H3, en2, .d d, ps3.sm, .refl, ps3.sm, gd2.more ps3.ff, se2.ext ps3.extb, r3, ?_⟩
    cases hg : g en2 (.d d) h2 with
    | er e h => rw [hg] at post2; exact post2.elim
    | no => rw [hg] at post2; exact post2.elim
    | ok en4 h4 =>
    rw [hg] at post2
    intro F4 β4 H4 σ4 sm4 st4 gd4 se4 _
    refine ⟨F4, β4, h4, en4, sm4, gd4, se4, ?_⟩
    simp only [Out.bind] at post2
    have st4' := Step.trans sm st3 st4
    cases hs : sd en4 h4 with
    | er e h => rw [hs] at post2; exact post2.elim
    | no => rw [hs] at post2; exact post2.elim
    | ok f h5 =>
      rw [hs] at post2
      cases f with
      | nx en5 => exact fun F5 β5 H5 σ5 sm5 st5 gd5 se5 => ⟨F5, β5, h5, en5, c3, sm5, Step.trans sm st4' st5, gd5, se5, (ci3.ext st4.ext).ext st5.ext, post2⟩
      | rt r => exact fun v F5 β5 H5 sm5 st5 gd5 rr5 => post2 v F5 β5 H5 sm5 (Step.trans sm st4' st5) gd5 (rr5.back sm st4' sm4)
/-! ### comprehensions -/
def tTs (K : Kf) (d : En → Hh → Out Bool) : TT := fun σ H Q => ∃ F β h en, Same F H ∧ Good K F β h ∧ SimE K F β en σ ∧ PostB K F β H (d en h) Q
theorem pts_Nil : PTs X [] (tTs X.K kYes) := ⟨fun pins s σ H Q I ⟨F, β, h, en, sm, gd, se, post⟩ => pts_nil.run pins s σ H Q I (post F β H sm .refl gd)⟩
theorem if_one {en : En} {h : Hh} : kIf d kYes en h = kTest d en h := by
  unfold kIf kTest kYes
  congr 1
  funext x h1
  cases e : truth h1 x with
  | none => rfl
  | some b => cases b <;> rfl
theorem pts_One (hc : PT X c (tT X.K d)) : PTs X [c] (tTs X.K (kIf d kYes)) := ⟨fun pins s σ H Q I ⟨F, β, h, en, sm, gd, se, post⟩ => (pts_one hc).run pins s σ H Q I ⟨F, β, h, en, sm, gd, se, by rw [if_one] at post; exact post⟩⟩
theorem hid_upd {F F' H H' : Hp} {β β' : List Addr} {D : Addr} {o : HO} (st : Step F β H F' β' H') (n : H D = none) : Step F β H F' β' (upd H' D o) :=
  ⟨st.gm, st.kp, fun a u f q => ⟨(st.hid a u f q).1, by rw [upd_ne (ne_of_none q n)]; exact (st.hid a u f q).2⟩⟩
theorem sm_hid {F H : Hp} {D : Addr} {o : HO} (sm : Same F H) (n : F D = none) : Same F (upd H D o) := fun a u q => by
  rw [upd_ne (ne_of_none q n)]; exact sm a u q
theorem fuel_line : FUEL ≤ sizeLine := by rw [sizeLine_eq]; unfold FUEL; omega
theorem lc_weak {own : List Nat} {σ : L2.St} {H : Hp} {Q : VK} (hv : ∀ j ∈ vs, j ∈ own) (h0 : tD X.K (kLc de g it di own) σ H Q) : tLc (tI X.K it) (tG X.K vs g) (tTs X.K di) (tD X.K de) own σ H Q := by
  obtain ⟨F, β, h, en, sm, gd, se, post⟩ := h0
  refine ⟨F, β, h, en, sm, gd, se, ?_⟩
  unfold kLc at post
  cases hit : it en h with
  | er e h => rw [hit] at post; exact post
  | no => rw [hit] at post; exact post
  | ok c0 h1 =>
  rw [hit] at post
  intro J F1 β1 H1 sm1 st1 gd1 ci1 D nD
  have nD0 : H D = none := none_back sm st1 sm1 nD
  have nDF : F1 D = none := sm_none sm1 nD
  let W : Nat → Nat → Hp → Prop := fun i m H' => ∃ F' β' h' c' accD acc, Same F' H' ∧ Step F β H F' β' H' ∧ Good X.K F' β' h' ∧ SimE X.K F' β' en σ ∧ CI X.K J i c' F' β' ∧ F' D = none ∧ H' D = some (.lst acc) ∧ VRs X.K F' β' accD.reverse acc ∧ acc.length + m ≤ FUEL ∧
    PostE X.K F β H ((lcLoop (kTurn de g di (wipeE en own)) m c' accD h').bind fun ds h => .ok (.fl ds) h) Q
  refine ⟨W, ⟨FUEL, F1, β1, h1, c0, [], [], sm_hid sm1 nDF, hid_upd st1 nD0, gd1, se.ext st1.ext, ci1, nDF, upd_same, rfl, Nat.le_of_eq (Nat.zero_add _), post⟩, ?_⟩
  rintro i m H2 ⟨F2, β2, h2, c2, accD, acc, sm2, st2, gd2, se2, ci2, fD2, hD2, w2, lm, post2⟩
  cases m with
  | zero => exact post2.elim
  | succ m =>
  unfold lcLoop at post2
  have z := ci2.now sm2 gd2
  cases hn : next c2 h2 with
  | stuck => rw [hn] at post2; exact post2.elim
  | stop =>
    rw [hn] at post2 z
    exact .inl ⟨z, post2 (.ref D) F2 β2 H2 sm2 st2 gd2 ⟨D, acc, rfl, nD0, fD2, hD2, w2⟩⟩
  | it d c3 =>
  rw [hn] at post2 z
  simp only at post2
  refine .inr ⟨z.1, W (i + 1) m, fun H' w => ⟨m, Nat.lt_succ_self m, w⟩, fun x H3 y => ?_⟩
  obtain ⟨F3, ps3, r3, ci3⟩ := z.2 x H3 y
  have st3 := Step.trans sm st2 (ps3.step (β := β2))
  have fD3 := ps3.nw D _ fD2 hD2
  have hD3 := ps3.hh D _ hD2
  refine ⟨F3, β2, h2, F3, β2, H3, wipeE en own, .d d, ps3.sm, .refl, ps3.sm, gd2.more ps3.ff, (se2.ext ps3.extb).wipe, r3, ?_⟩
  unfold kTurn at post2
  cases hg : g (wipeE en own) (.d d) h2 with
  | er e h => rw [hg] at post2; exact post2.elim
  | no => rw [hg] at post2; exact post2.elim
  | ok en4 h4 =>
  rw [hg] at post2
  simp only [Out.bind] at post2
  intro F4 β4 H4 σ4 sm4 st4 gd4 se4 kk4
  have st4' := Step.trans sm st3 st4
  obtain ⟨fD4, hD4⟩ := st4.hid D _ fD3 hD3
  have kk : Keeps own (L2.wipe σ own) σ4 := ⟨kk4.1, fun j hj => kk4.2 j fun m => hj (hv j m)⟩
  refine ⟨kk.wipe2, F4, β4, h4, en4, sm4, gd4, se4, ?_⟩
  cases hdi : di en4 h4 with
  | er e h => rw [hdi] at post2; exact post2.elim
  | no => rw [hdi] at post2; exact post2.elim
  | ok b h5 =>
  rw [hdi] at post2
  intro F5 β5 H5 sm5 st5 gd5
  have st5' := Step.trans sm st4' st5
  obtain ⟨fD5, hD5⟩ := st5.hid D _ fD4 hD4
  have x35 : Ext F3 β2 F5 β5 := st4.ext.trans st5.ext
  have se5 := ((se2.ext ps3.extb).ext x35)
  have w5 := VRs.ext x35 _ _ (VRs.ext ps3.extb _ _ w2)
  cases b with
  | false =>
    rw [if_neg (by decide)]
    exact ⟨F5, β5, h5, c3, accD, acc, sm5, st5', gd5, se5, ci3.ext x35, fD5, hD5, w5, by omega, post2⟩
  | true =>
    rw [if_pos rfl]
    refine ⟨F5, β5, h5, en4, sm5, gd5, se4.ext st5.ext, ?_⟩
    simp only at post2
    cases hde : de en4 h5 with
    | er e h => rw [hde] at post2; exact post2.elim
    | no => rw [hde] at post2; exact post2.elim
    | ok r h6 =>
    rw [hde] at post2
    simp only at post2
    intro y F6 β6 H6 sm6 st6 gd6 rr6
    obtain ⟨fD6, hD6⟩ := st6.hid D _ fD5 hD5
    obtain ⟨F7, k1, k2, k3, k4, k5⟩ := freeze1 sm5 st6 sm6 gd6 rr6
    have fD7 : F7 D = none := k5 D fD6 fun m => by
      cases r with
      | d q => exact nomatch m
      | fl l =>
        obtain ⟨b, ws, rfl, n, _⟩ := rr6
        have e : D = b := by simpa [flA] using m
        rw [← e, hD5] at n; cases n
    have x67 : Ext F6 β6 F7 β6 := ⟨fun _ _ z => z, fun b o z m => ⟨k1 b o z, m⟩⟩
    have x57 : Ext F5 β5 F7 β6 := st6.ext.trans x67
    have hl := fuel_line
    refine ⟨acc, hD6, by omega, F7, β6, h6, c3, r.toD :: accD, acc ++ [y], sm_hid k2 fD7, hid_upd (Step.trans sm st5' k3) nD0, gd6.more k1, se5.ext x57, (ci3.ext x35).ext x57, fD7, upd_same, ?_, by rw [List.length_append, List.length_singleton]; omega, post2⟩
    rw [List.reverse_cons]
    exact (VRs.ext x57 _ _ w5).app (VRs.one k4)
theorem pd_Lc {scope : Scope} {own : List (Str × Nat)} (hv : ∀ j ∈ vs, j ∈ own.map (·.2)) (hc : X.calm = true) (hN : X.N.Nodup) (hi : PI X tg iter (tI X.K it)) (ok : BlkOk X.N X.env.scope scope own)
    (hg : ∀ (s : Shared) (H : Hp) (C : Addr) (cl : List (Str × Addr)) (fp : List Addr), PG (X.blk s H scope (compEnvC scope cl C X.env) fp) tg (tG X.K vs g))
    (ht : ∀ (s : Shared) (H : Hp) (C : Addr) (cl : List (Str × Addr)) (fp : List Addr), PTs (X.blk s H scope (compEnvC scope cl C X.env) fp) ifs (tTs X.K di))
    (he : ∀ (s : Shared) (H : Hp) (C : Addr) (cl : List (Str × Addr)) (fp : List Addr), PE (X.blk s H scope (compEnvC scope cl C X.env) fp) elt (tD X.K de)) (hs : ∀ x, foldedSetIterable iter X.env x = pure x) :
    PE X (.ListComp elt [⟨tg, iter, ifs, 0⟩] scope pos) (tD X.K (kLc de g it di (own.map (·.2)))) :=
  PE_weak (pe_lc hc hN hi ok hg ht he hs) fun σ H Q h => lc_weak hv h
theorem tD_mono {K : Kf} {σ : L2.St} {H : Hp} {Q Q' : VK} (h : tD K d σ H Q) (k : ∀ v H', Q v H' → Q' v H') : tD K d σ H Q' := by
  obtain ⟨F, β, hh, en, sm, gd, se, post⟩ := h
  refine ⟨F, β, hh, en, sm, gd, se, ?_⟩
  cases hd : d en hh with
  | er e h => rw [hd] at post; exact post
  | no => rw [hd] at post; exact post
  | ok r h1 => rw [hd] at post; exact fun v F' β' H' a b c e => k v H' (post v F' β' H' a b c e)
theorem al_weak : ∀ σ H Q, tD X.K (kAl d) σ H Q → tD X.K d σ H Q := fun σ H Q ⟨F, β, h, en, sm, gd, se, post⟩ => by
  refine ⟨F, β, h, en, sm, gd, se, ?_⟩
  unfold kAl at post
  cases hd : d en h with
  | er e h => rw [hd] at post; exact post
  | no => rw [hd] at post; exact post
  | ok r h1 =>
    rw [hd] at post
    simp only [Out.bind] at post
    intro v F1 β1 H1 sm1 st1 gd1 rr1
    unfold alR at post
    split at post
    · rename_i ds
      obtain ⟨a, vs, rfl, n0, f, q, w⟩ := rr1
      obtain ⟨k1, k2, k3⟩ := grow sm st1 sm1 gd1 n0 f q w
      exact post (.ref a) _ _ H1 k1 k2 k3 ⟨a, by rw [← gd1.len, List.getElem?_append_right (Nat.le_refl _)]; simp, rfl⟩
    · exact post.elim
theorem nm_weak {i : Nat} {v : V} {σ : L2.St} {H : Hp} {Q : L2.St → Hp → Prop} (h : tG X.K [i] (kNm i) v σ H Q) : gName i v σ H Q := by
  obtain ⟨F, β, h, F0, β0, H₀, en, r, sm0, st, sm, gd, se, rr, post⟩ := h
  unfold kNm at post
  split at post
  case isFalse => exact post.elim
  obtain ⟨F2, k1, k2, k3, k4, _⟩ := freeze1 sm0 st sm gd rr
  have x2 : Ext F β F2 β := ⟨fun _ _ z => z, fun b o z m => ⟨k1 b o z, m⟩⟩
  exact post F2 β H _ k2 k3 (gd.more k1) ((se.ext x2).set k4) ⟨by rw [List.length_set], fun j hj => by rw [List.getElem?_set_ne]; exact fun e => hj (by rw [e]; exact List.mem_cons_self)⟩
/-- y = [..] on one line, y a local -/
theorem ps_SetLc {scope : Scope} {own : List (Str × Nat)} {i : Nat} {y : Str} {py : Pos} {dl : Den} (hdl : dl = kLc de g it di (own.map (·.2)) ∨ dl = kAl (kLc de g it di (own.map (·.2)))) (hv : ∀ j ∈ vs, j ∈ own.map (·.2)) (hc : X.calm = true) (hN : X.N.Nodup) (hy : X.N[i]? = some y) (hyl : X.env.scope.names.lookup y = some .local)
    (hsw : swapsWith (.ListComp elt [⟨tg, iter, ifs, 0⟩] scope pos) (some (.Name y py)) spos.line X.env = pure true) (hi : PI X tg iter (tI X.K it)) (ok : BlkOk X.N X.env.scope scope own)
    (hg : ∀ (s : Shared) (H : Hp) (C : Addr) (cl : List (Str × Addr)) (fp : List Addr), PG (X.blk s H scope (compEnvC scope cl C X.env) fp) tg (tG X.K vs g))
    (ht : ∀ (s : Shared) (H : Hp) (C : Addr) (cl : List (Str × Addr)) (fp : List Addr), PTs (X.blk s H scope (compEnvC scope cl C X.env) fp) ifs (tTs X.K di))
    (he : ∀ (s : Shared) (H : Hp) (C : Addr) (cl : List (Str × Addr)) (fp : List Addr), PE (X.blk s H scope (compEnvC scope cl C X.env) fp) elt (tD X.K de)) (hs : ∀ x, foldedSetIterable iter X.env x = pure x) :
    PS X (.Assign [.Name y py] (.ListComp elt [⟨tg, iter, ifs, 0⟩] scope pos) spos) (tS X.K (kAsg (kNm i) dl)) := by
  refine PS_weak (ps_setLc hc hN hy hyl hsw hi ok hg ht he hs) fun D σ H h0 => ?_
  have h1 : tD X.K dl σ H (fun x H1 => gName i x σ H1 D.nx) := tD_mono (asg_weak D σ H h0) fun v H' q => nm_weak q
  refine lc_weak hv ?_
  rcases hdl with rfl | rfl
  · exact h1
  · exact al_weak _ _ _ h1
end
end MP
end

section
set_option Elab.async false
set_option linter.all false
set_option maxRecDepth 100000
set_option maxHeartbeats 4000000
namespace MP
open PySem PySem.Spec L2 PyProof.Rows
def n_len : Str := ⟨#[108, 101, 110]⟩
def n_abs : Str := ⟨#[97, 98, 115]⟩
def n_sum : Str := ⟨#[115, 117, 109]⟩
def n_min : Str := ⟨#[109, 105, 110]⟩
def n_max : Str := ⟨#[109, 97, 120]⟩
def n_sorted : Str := ⟨#[115, 111, 114, 116, 101, 100]⟩
def n_list : Str := ⟨#[108, 105, 115, 116]⟩
def n_tuple : Str := ⟨#[116, 117, 112, 108, 101]⟩
def n_int : Str := ⟨#[105, 110, 116]⟩
def n_str : Str := ⟨#[115, 116, 114]⟩
def n_repr : Str := ⟨#[114, 101, 112, 114]⟩
def n_any : Str := ⟨#[97, 110, 121]⟩
def n_all : Str := ⟨#[97, 108, 108]⟩
def n_isinstance : Str := ⟨#[105, 115, 105, 110, 115, 116, 97, 110, 99, 101]⟩
def n_bool : Str := ⟨#[98, 111, 111, 108]⟩
def n_set : Str := ⟨#[115, 101, 116]⟩
def n_zip : Str := ⟨#[122, 105, 112]⟩
def n_range : Str := ⟨#[114, 97, 110, 103, 101]⟩
def n_enumerate : Str := ⟨#[101, 110, 117, 109, 101, 114, 97, 116, 101]⟩
def n_append : Str := ⟨#[97, 112, 112, 101, 110, 100]⟩
def n_extend : Str := ⟨#[101, 120, 116, 101, 110, 100]⟩
def n_pop : Str := ⟨#[112, 111, 112]⟩
def n_debug : Str := ⟨#[95, 95, 100, 101, 98, 117, 103, 95, 95]⟩
def n_classdict : Str := ⟨#[95, 95, 99, 108, 97, 115, 115, 100, 105, 99, 116, 95, 95]⟩
def bltNames : List Str := [n_len, n_abs, n_sum, n_min, n_max, n_sorted, n_list, n_tuple, n_int, n_str, n_repr, n_any, n_all, n_isinstance, n_bool, n_set, n_zip, n_range, n_enumerate]
def biS : BI → Str
  | .len => n_len
  | .abs => n_abs
  | .sum => n_sum
  | .mn => n_min
  | .mx => n_max
  | .mn2 => n_min
  | .mx2 => n_max
  | .srt => n_sorted
  | .lst => n_list
  | .tup => n_tuple
  | .int => n_int
  | .str => n_str
  | .repr => n_repr
  | .any => n_any
  | .all => n_all
  | .isInt => n_isinstance
  | .isBool => n_isinstance
  | .isTup => n_isinstance
  | .isLst => n_isinstance
  | .isStr => n_isinstance
  | .lenset => n_len
  | .lzip => n_list
  | .lrng1 => n_list
  | .lrng2 => n_list
def meS : ME → Str
  | .append => n_append
  | .extend => n_extend
  | .pop => n_pop
  | .popAt => n_pop
/-- what is known of a place in the text -/
structure Gam where
  N : List Str
  sc : Scope
  cel : Option Scope
def visB (sc : Scope) (x : Str) : Bool := match sc.names.lookup x with
  | some .local => true
  | some .cell => true
  | some .free => true
  | _ => false
def locB (sc : Scope) (x : Str) : Bool := match sc.names.lookup x with
  | some .local => true
  | some .cell => true
  | _ => false
def isLoc (sc : Scope) (x : Str) : Bool := match sc.names.lookup x with
  | some .local => true
  | _ => false
def glB (sc : Scope) (x : Str) : Bool := match sc.names.lookup x with
  | some .globalImplicit => true
  | _ => false
def nmB (x : Str) : Bool := !decide (x = n_debug) && !decide (x = n_classdict)
def fnB (Γ : Gam) (x : Str) : Bool := match Γ.cel with
  | none => true
  | some sc => match sc.names.lookup x with
    | some .cell => true
    | _ => false
def noStars (l : List Expr) : Bool := l.all fun e => !isStar e
def isSlice : Expr → Bool
  | .Slice _ _ _ _ => true
  | _ => false
def isSet : Expr → Bool
  | .Set _ _ _ => true
  | _ => false
def genB : Expr → Bool
  | .BoolOp _ _ _ => false
  | .UnaryOp _ _ _ => false
  | .IfExp _ _ _ _ => false
  | .Compare _ _ _ _ => false
  | _ => true
def baseB : Expr → Bool
  | .Name _ _ => true
  | .Subscript _ _ _ => true
  | _ => false
def chkC : D → Expr → Bool
  | .non, .Constant .none _ _ => true
  | .bl b, .Constant (.bool c) _ _ => b == c
  | .int i, .Constant (.int j) _ _ => decide (i = j)
  | .str x, .Constant (.str y) _ _ => decide (x = y)
  | _, _ => false
def ownP (N : List Str) (own : List Nat) : List (Str × Nat) := own.map fun j => (N.getD j n_debug, j)
def blkB (N : List Str) (sc scope : Scope) (own : List (Str × Nat)) : Bool :=
  decide (scope.kind = .function) && scope.names.all (fun y => decide (scope.names.lookup y.1 = some y.2)) && own.all (fun p => decide (N[p.2]? = some p.1)) &&
  (scope.names.all (fun y => match y.2 with
    | .free => match sc.names.lookup y.1 with
      | some .cell => true
      | some .free => true
      | _ => false
    | _ => true) &&
  scope.names.all (fun y => match y.2 with
    | .local => decide (y.1 ∈ own.map (·.1)) || !decide (y.1 ∈ N)
    | .cell => decide (y.1 ∈ own.map (·.1)) || !decide (y.1 ∈ N)
    | _ => true))
mutual
def slT : T → List Nat
  | .nm i => [i]
  | .tp ts => slTs ts
  | .sb _ _ => []
def slTs : Ts → List Nat
  | .nil => []
  | .cons t ts => slT t ++ slTs ts
end
def lenTs : Ts → Nat
  | .nil => 0
  | .cons _ ts => lenTs ts + 1
def gamLc (Γ : Gam) (scope : Scope) : Gam := { N := Γ.N, sc := relS scope Γ.sc, cel := some scope }
def plainBi : BI → Bool
  | .isInt => false
  | .isBool => false
  | .isTup => false
  | .isLst => false
  | .isStr => false
  | .lenset => false
  | .lzip => false
  | .lrng1 => false
  | .lrng2 => false
  | _ => true
section
variable (cn : List Str) (fds : List FD)
mutual
def chkE (Γ : Gam) : E → Expr → Bool
  | .v i, ex => match ex with
    | .Name x _ => decide (Γ.N[i]? = some x) && visB Γ.sc x && nmB x
    | _ => false
  | .c d, ex => chkC d ex
  | .g k, ex => match ex with
    | .Name x _ => decide (cn[k]? = some x) && glB Γ.sc x && nmB x
    | _ => false
  | .tup es, ex => match ex with
    | .Tuple l _ _ => chkEs Γ es l && noStars l
    | _ => false
  | .lst es, ex => match ex with
    | .List l _ => chkEs Γ es l && noStars l
    | _ => false
  | .bin op a b, ex => match ex with
    | .BinOp x o y _ => decide (op = o) && chkE Γ a x && chkE Γ b y
    | _ => false
  | .neg a, ex => match ex with
    | .UnaryOp .USub x _ => chkE Γ a x
    | _ => false
  | .not a, ex => match ex with
    | .UnaryOp .Not x _ => chkE Γ a x
    | _ => false
  | .cmp op a b, ex => match ex with
    | .Compare x [o] [y] _ => decide (op = o) && chkE Γ a x && chkE Γ b y && !behindInMarks o y
    | _ => false
  | .chain o1 o2 a b c, ex => match ex with
    | .Compare x [p1, p2] [y, z] _ => decide (o1 = p1) && decide (o2 = p2) && chkE Γ a x && chkE Γ b y && chkE Γ c z && !lastMarks [p1, p2] [y, z]
    | _ => false
  | .and a b, ex => match ex with
    | .BoolOp .And [x, y] _ => chkE Γ a x && chkE Γ b y
    | .BoolOp .And (x :: y :: z :: r) p => chkE Γ a x && chkE Γ b (.BoolOp .And (y :: z :: r) p)
    | _ => false
  | .or a b, ex => match ex with
    | .BoolOp .Or [x, y] _ => chkE Γ a x && chkE Γ b y
    | .BoolOp .Or (x :: y :: z :: r) p => chkE Γ a x && chkE Γ b (.BoolOp .Or (y :: z :: r) p)
    | _ => false
  | .ite t a b, ex => match ex with
    | .IfExp c x y _ => chkE Γ t c && chkE Γ a x && chkE Γ b y
    | _ => false
  | .ix a b, ex => match ex with
    | .Subscript x y _ => chkE Γ a x && chkE Γ b y && !isSlice y
    | _ => false
  | .sl b1 b2 a lo hi, ex => match ex with
    | .Subscript x (.Slice l h none _) _ => chkE Γ a x && (match l with
      | some e => b1 && chkE Γ lo e
      | none => !b1) && (match h with
      | some e => b2 && chkE Γ hi e
      | none => !b2)
    | _ => false
  | .none, _ => false
  | .rev a, ex => match ex with
    | .Subscript x (.Slice none none (some (.UnaryOp .USub (.Constant (.int 1) _ _) _)) _) _ => chkE Γ a x
    | _ => false
  | .call f ps kws pm, ex => match ex with
    | .Call (.Name x _) l ks _ => (match fds[f]? with
      | some fd => decide (fd.name = x) && pmOk fd.ps l.length (kwNames ks) pm
      | none => false) && glB Γ.sc x && nmB x && chkEs Γ ps l && chkKs Γ kws ks && noStars l && kwAll ks
    | _ => false
  | .bi b es, ex => chkBi Γ b es ex
  | .meth m o es, ex => match ex with
    | .Call (.Attribute ob name apos) l [] cpos => decide (name = meS m) && chkE Γ o ob && chkEs Γ es l && noStars l && decide (l.length < 30) && baseB ob && (apos.endLine == cpos.line) && (decide (m = .pop) == l.isEmpty)
    | _ => false
  | .lc elt tg it ifs own, ex => match ex with
    | .ListComp el [⟨t, iter, fs, a⟩] scope _ => decide (a = 0) && blkB Γ.N Γ.sc scope (ownP Γ.N own) && chkE (gamLc Γ scope) elt el && chkT (gamLc Γ scope) tg t && chkI Γ it t iter && chkIf (gamLc Γ scope) ifs fs && (slT tg).all (fun j => decide (j ∈ own)) && !isSet iter
    | _ => false
  | .al e, ex => chkE Γ e ex && genB ex
def chkBi (Γ : Gam) : BI → Es → Expr → Bool
  | b, .cons e1 es1, ex => match b, es1, ex with
    | .isInt, .nil, .Call (.Name x _) [e, .Name y _] [] _ => decide (x = n_isinstance) && glB Γ.sc x && decide (y = n_int) && glB Γ.sc y && chkE Γ e1 e && !isStar e
    | .isBool, .nil, .Call (.Name x _) [e, .Name y _] [] _ => decide (x = n_isinstance) && glB Γ.sc x && decide (y = n_bool) && glB Γ.sc y && chkE Γ e1 e && !isStar e
    | .isTup, .nil, .Call (.Name x _) [e, .Name y _] [] _ => decide (x = n_isinstance) && glB Γ.sc x && decide (y = n_tuple) && glB Γ.sc y && chkE Γ e1 e && !isStar e
    | .isLst, .nil, .Call (.Name x _) [e, .Name y _] [] _ => decide (x = n_isinstance) && glB Γ.sc x && decide (y = n_list) && glB Γ.sc y && chkE Γ e1 e && !isStar e
    | .isStr, .nil, .Call (.Name x _) [e, .Name y _] [] _ => decide (x = n_isinstance) && glB Γ.sc x && decide (y = n_str) && glB Γ.sc y && chkE Γ e1 e && !isStar e
    | .lenset, .nil, .Call (.Name x _) [.Call (.Name y _) [e] [] _] [] _ => decide (x = n_len) && glB Γ.sc x && decide (y = n_set) && glB Γ.sc y && chkE Γ e1 e && !isStar e
    | .lrng1, .nil, .Call (.Name x _) [.Call (.Name y _) [e] [] _] [] _ => decide (x = n_list) && glB Γ.sc x && decide (y = n_range) && glB Γ.sc y && chkE Γ e1 e && !isStar e
    | .lrng2, .cons e2 .nil, .Call (.Name x _) [.Call (.Name y _) [e, f] [] _] [] _ => decide (x = n_list) && glB Γ.sc x && decide (y = n_range) && glB Γ.sc y && chkE Γ e1 e && chkE Γ e2 f && !isStar e && !isStar f
    | .lzip, .cons e2 .nil, .Call (.Name x _) [.Call (.Name y _) [e, f] [] _] [] _ => decide (x = n_list) && glB Γ.sc x && decide (y = n_zip) && glB Γ.sc y && chkE Γ e1 e && chkE Γ e2 f && !isStar e && !isStar f
    | b, es1, .Call (.Name x _) (e :: l) [] _ => plainBi b && decide (x = biS b) && glB Γ.sc x && chkE Γ e1 e && chkEs Γ es1 l && noStars (e :: l)
    | _, _, _ => false
  | _, .nil, _ => false
def chkEs (Γ : Gam) : Es → List Expr → Bool
  | .nil, [] => true
  | .cons e es, x :: l => chkE Γ e x && chkEs Γ es l
  | _, _ => false
def chkKs (Γ : Gam) : Es → List Keyword → Bool
  | .nil, [] => true
  | .cons e es, ⟨_, x, _⟩ :: l => chkE Γ e x && chkKs Γ es l
  | _, _ => false
def chkIf (Γ : Gam) : Es → List Expr → Bool
  | .nil, [] => true
  | .cons e .nil, [x] => chkE Γ e x
  | _, _ => false
def chkT (Γ : Gam) : T → Expr → Bool
  | .nm i, ex => match ex with
    | .Name x _ => decide (Γ.N[i]? = some x) && locB Γ.sc x && (fnB Γ x || isLoc Γ.sc x)
    | _ => false
  | .tp ts, ex => match ex with
    | .Tuple l _ _ => chkTs Γ ts l && noStars l && decide (l.length = lenTs ts)
    | _ => false
  | .sb a i, ex => match ex with
    | .Subscript x y _ => chkE Γ a x && chkE Γ i y && !isSlice y
    | _ => false
def chkTs (Γ : Gam) : Ts → List Expr → Bool
  | .nil, [] => true
  | .cons t ts, x :: l => chkT Γ t x && chkTs Γ ts l
  | _, _ => false
def chkI (Γ : Gam) : I → Expr → Expr → Bool
  | .e a, _, ex => chkE Γ a ex
  | .rg1 a, _, ex => match ex with
    | .Call (.Name x _) [e] [] _ => decide (x = n_range) && glB Γ.sc x && chkE Γ a e && !isStar e
    | _ => false
  | .rg2 a b, _, ex => match ex with
    | .Call (.Name x _) [e, f] [] _ => decide (x = n_range) && glB Γ.sc x && chkE Γ a e && chkE Γ b f && !isStar e && !isStar f
    | _ => false
  | .en a, tg, ex => match tg, ex with
    | .Tuple _ _ _, .Call (.Name x _) [e] [] _ => decide (x = n_enumerate) && glB Γ.sc x && chkE Γ a e && !isStar e
    | _, _ => false
  | .zp a b, tg, ex => match tg, ex with
    | .Tuple _ _ _, .Call (.Name x _) [e, f] [] _ => decide (x = n_zip) && glB Γ.sc x && chkE Γ a e && chkE Γ b f && !isStar e && !isStar f
    | _, _ => false
end
end
end MP
end

section
set_option Elab.async false
set_option linter.all false
set_option maxRecDepth 100000
set_option maxHeartbeats 4000000
namespace MP
open PySem PySem.Spec L2 PyProof.Rows
structure GoodX (cs : List D) (cn : List Str) (fds : List FD) (k : Nat) (Γ : Gam) (X : Cx) : Prop where
  N : X.N = Γ.N
  sc : X.env.scope = Γ.sc
  cel : ∀ x, fnB Γ x = true → X.fn x = true
  nd : Γ.N.Nodup
  calm : X.calm = true
  gd : X.A.guards = some []
  room : Room k X.A
  blt : ∀ x, x ∈ bltNames → X.mg x = none
  cst : ∀ (j : Nat) (x : Str), cn[j]? = some x → ∃ u v d, cs[j]? = some d ∧ X.mg x = some u ∧ RelV v u ∧ VR X.K (fun _ => none) [] d v
  fns : ∀ (i : Nat) (fd : FD), fds[i]? = some fd → ∃ f fdt, X.mg fd.name = some (.ref f) ∧ PySem.W.keepIn X.K (.ref f) = true ∧ Simple fdt fd.ps ∧ FnM X.prog X.w X.K X.mg X.base noX k f fdt fd.ps (spR X.K (runF cs fds k) i fd.ps.length)
section
variable {cs : List D} {cn : List Str} {fds : List FD} {k : Nat} {Γ : Gam} {X : Cx} {x : Str} {pos p : Pos}
theorem GoodX.un (G : GoodX cs cn fds k Γ X) : X.A.units + 65 < cLine := by have := G.room.un; omega
theorem vis_of (G : GoodX cs cn fds k Γ X) (h : visB Γ.sc x = true) : Vis X.env.scope x := by
  rw [G.sc]
  unfold visB at h
  split at h
  · rename_i e; exact .inl e
  · rename_i e; exact .inr (.inl e)
  · rename_i e; exact .inr (.inr e)
  · cases h
theorem loc_of (G : GoodX cs cn fds k Γ X) (h : locB Γ.sc x = true) : Loc X.env.scope x := by
  rw [G.sc]
  unfold locB at h
  split at h
  · rename_i e; exact .inl e
  · rename_i e; exact .inr e
  · cases h
theorem isloc_of (G : GoodX cs cn fds k Γ X) (h : isLoc Γ.sc x = true) : X.env.scope.names.lookup x = some .local := by
  rw [G.sc]
  unfold isLoc at h
  split at h
  · rename_i e; exact e
  · cases h
theorem gl_of (G : GoodX cs cn fds k Γ X) (h : glB Γ.sc x = true) : Gl X x := by
  show X.env.scope.names.lookup x = some .globalImplicit
  rw [G.sc]
  unfold glB at h
  split at h
  · rename_i e; exact e
  · cases h
theorem nm_of (h : nmB x = true) : (x == ("__debug__" : Str)) = false ∧ (x == ("__classdict__" : Str)) = false := by
  unfold nmB at h
  rw [Bool.and_eq_true] at h
  have e1 : n_debug = ("__debug__" : Str) := by decide
  have e2 : n_classdict = ("__classdict__" : Str) := by decide
  rw [e1, e2] at h
  exact ⟨by simpa using h.1, by simpa using h.2⟩
theorem pd_One (op : BoolOp) {a : Expr} {d : Den} (h : PE X a (tD X.K d)) : PE X (.BoolOp op [a] pos) (tD X.K d) := ⟨fun pins s σ H Q I q => h.run pins s σ H Q I q⟩
theorem pt_Ite {a b c : Expr} {da db dc : Den} (hc : PT X c (tT X.K dc)) (ha : PT X a (tT X.K da)) (hb : PT X b (tT X.K db)) : PT X (.IfExp c a b pos) (tT X.K (kIte dc da db)) := by
  refine ⟨fun pins s σ H Q I ⟨F, β, h, en, sm, gd, se, post⟩ => ?_⟩
  rw [test_ite] at post
  have h0 := bindTB (K := X.K) (k := fun b H1 => if b = true then tT X.K da σ H1 Q else tT X.K db σ H1 Q) sm gd se post fun k F1 β1 H1 h1 sm1 st1 gd1 se1 post1 => by
    cases k with
    | true => rw [if_pos rfl]; exact ⟨F1, β1, h1, en, sm1, gd1, se1, post1⟩
    | false => rw [if_neg (by decide)]; exact ⟨F1, β1, h1, en, sm1, gd1, se1, post1⟩
  refine wpAny_bind (thn (hc.run pins s σ H _ I h0) fun k s1 ⟨H1, I1, q1⟩ => ?_)
  cases k with
  | true => rw [if_pos rfl] at q1; exact ha.run pins s1 σ H1 Q I1 q1
  | false => rw [if_neg (by decide)] at q1; exact hb.run pins s1 σ H1 Q I1 q1
theorem pw_of {op : BoolOp} {vs : List Expr} {t : TT} (h : PT X (.BoolOp op vs pos) t) : PW X (.BoolOp op vs pos) t := ⟨fun _ pins s σ H Q I q => h.run pins s σ H Q I q⟩
theorem blk_of {scope : Scope} {own : List (Str × Nat)} (h : blkB Γ.N Γ.sc scope own = true) : BlkOk Γ.N Γ.sc scope own := by
  unfold blkB at h
  simp only [Bool.and_eq_true, decide_eq_true_eq, List.all_eq_true] at h
  obtain ⟨⟨⟨h1, h2⟩, h3⟩, h4, h5⟩ := h
  refine ⟨h1, h2, h3, fun y hy e => ?_, fun y hy e => ?_⟩
  · have := h4 y hy
    rw [e] at this
    simp only at this
    split at this
    · rename_i q; exact .inl q
    · rename_i q; exact .inr q
    · cases this
  · have := h5 y hy
    rcases e with e | e
    · rw [e] at this
      simp only [Bool.or_eq_true, decide_eq_true_eq, Bool.not_eq_true', decide_eq_false_iff_not] at this
      exact this
    · rw [e] at this
      simp only [Bool.or_eq_true, decide_eq_true_eq, Bool.not_eq_true', decide_eq_false_iff_not] at this
      exact this
theorem GoodX.blk (G : GoodX cs cn fds k Γ X) (scope : Scope) (s : Shared) (H : Hp) (C : Addr) (cl : List (Str × Addr)) (fp : List Addr) : GoodX cs cn fds k (gamLc Γ scope) (X.blk s H scope (compEnvC scope cl C X.env) fp) where
  N := G.N
  sc := by
    show relS scope X.env.scope = relS scope Γ.sc
    rw [G.sc]
  cel := fun x h => by
    show (scope.names.lookup x == some .cell) = true
    have h : (match scope.names.lookup x with
      | some .cell => true
      | _ => false) = true := h
    split at h
    · rename_i e; rw [e]; rfl
    · cases h
  nd := G.nd
  calm := G.calm
  gd := G.gd
  room := G.room
  blt := G.blt
  cst := G.cst
  fns := G.fns
theorem ownP_snd {N : List Str} : ∀ own : List Nat, (ownP N own).map (·.2) = own := fun own => by
  unfold ownP
  rw [List.map_map]
  conv => rhs; rw [← List.map_id own]
  rfl
/-- the tests of an expression that is none of its own kinds -/
theorem pt_gen {ex : Expr} {d : Den} (h : PE X ex (tD X.K d)) (he : ∀ whole, isTrue ex X.env whole = (do let v ← whole; standAt ex.pos; holding [v] (truthy v))) : PE X ex (tD X.K d) ∧ PT X ex (tT X.K d) := ⟨h, pt_any h he⟩
theorem pd_Const {d : D} {ex : Expr} (h : chkC d ex = true) : PE X ex (tD X.K (kC d)) ∧ PT X ex (tT X.K (kC d)) := by
  unfold chkC at h
  split at h
  · exact pt_gen (pd_C pe_non fun _ _ _ => rfl) fun _ => rfl
  · rename_i b c _ _
    cases (show b = c by simpa using h)
    exact pt_gen (pd_C pe_bl fun _ _ _ => rfl) fun _ => rfl
  · rename_i b c _ _
    cases (show b = c by simpa using h)
    exact pt_gen (pd_C pe_int fun _ _ _ => rfl) fun _ => rfl
  · rename_i b c _ _
    cases (show b = c by simpa using h)
    exact pt_gen (pd_C pe_str fun _ _ _ => rfl) fun _ => rfl
  · cases h
theorem base_of {o : Expr} {name : Str} {env : Env} (h : baseB o = true) : attributeBase o name env (eval o env) = eval o env := by
  unfold baseB at h
  split at h
  · rfl
  · rfl
  · cases h
theorem len_Es (cl : Cl) : ∀ (es : Es) (l : List Expr), chkEs cn fds Γ es l = true → ∀ en h rs h', dEs cl cs es en h = .ok rs h' → rs.length = l.length
  | .nil, [], _, en, h, rs, h', e => by
    have e : Out.ok [] h = Out.ok rs h' := e
    cases e; rfl
  | .cons a es, x :: l, c, en, h, rs, h', e => by
    unfold chkEs at c
    rw [Bool.and_eq_true] at c
    have e : ((dE cl cs a en h).bind fun r h => (dEs cl cs es en h).bind fun rs h => .ok (r :: rs) h) = .ok rs h' := e
    cases ha : dE cl cs a en h with
    | er e2 h2 => rw [ha] at e; cases e
    | no => rw [ha] at e; cases e
    | ok r h1 =>
      rw [ha] at e
      have e : ((dEs cl cs es en h1).bind fun rs h => .ok (r :: rs) h) = .ok rs h' := e
      cases hb : dEs cl cs es en h1 with
      | er e2 h2 => rw [hb] at e; cases e
      | no => rw [hb] at e; cases e
      | ok qs h2 =>
        rw [hb] at e
        have e : Out.ok (r :: qs) h2 = .ok rs h' := e
        cases e
        rw [List.length_cons, List.length_cons, len_Es cl es l c.2 en h1 qs _ hb]
  | .nil, _ :: _, c, _, _, _, _, _ => by unfold chkEs at c; cases c
  | .cons _ _, [], c, _, _, _, _, _ => by unfold chkEs at c; cases c
theorem len_Ks (cl : Cl) : ∀ (es : Es) (l : List Keyword), chkKs cn fds Γ es l = true → ∀ en h rs h', dEs cl cs es en h = .ok rs h' → rs.length = l.length
  | .nil, [], _, en, h, rs, h', e => by
    have e : Out.ok [] h = Out.ok rs h' := e
    cases e; rfl
  | .cons a es, ⟨n, x, q⟩ :: l, c, en, h, rs, h', e => by
    unfold chkKs at c
    rw [Bool.and_eq_true] at c
    have e : ((dE cl cs a en h).bind fun r h => (dEs cl cs es en h).bind fun rs h => .ok (r :: rs) h) = .ok rs h' := e
    cases ha : dE cl cs a en h with
    | er e2 h2 => rw [ha] at e; cases e
    | no => rw [ha] at e; cases e
    | ok r h1 =>
      rw [ha] at e
      have e : ((dEs cl cs es en h1).bind fun rs h => .ok (r :: rs) h) = .ok rs h' := e
      cases hb : dEs cl cs es en h1 with
      | er e2 h2 => rw [hb] at e; cases e
      | no => rw [hb] at e; cases e
      | ok qs h2 =>
        rw [hb] at e
        have e : Out.ok (r :: qs) h2 = .ok rs h' := e
        cases e
        rw [List.length_cons, List.length_cons, len_Ks cl es l c.2 en h1 qs _ hb]
  | .nil, _ :: _, c, _, _, _, _, _ => by unfold chkKs at c; cases c
  | .cons _ _, [], c, _, _, _, _, _ => by unfold chkKs at c; cases c
theorem len_Ts (cl : Cl) : ∀ (ts : Ts) en ds h en' h', dTs cl cs ts en ds h = .ok en' h' → ds.length = lenTs ts
  | .nil, en, ds, h, en', h', e => by
    cases ds with
    | nil => rfl
    | cons d r => exact nomatch (show (Out.no : Out En) = .ok en' h' from e)
  | .cons t ts, en, ds, h, en', h', e => by
    cases ds with
    | nil => exact nomatch (show (Out.no : Out En) = .ok en' h' from e)
    | cons d r =>
      have e : ((dT cl cs t en (.d d) h).bind fun en h => dTs cl cs ts en r h) = .ok en' h' := e
      cases ht : dT cl cs t en (.d d) h with
      | er e2 h2 => rw [ht] at e; cases e
      | no => rw [ht] at e; cases e
      | ok en1 h1 =>
        rw [ht] at e
        show r.length + 1 = lenTs ts + 1
        rw [len_Ts cl ts en1 r h1 en' h' e]
end
end MP
end

section
set_option Elab.async false
set_option linter.all false
set_option maxRecDepth 100000
set_option maxHeartbeats 8000000
namespace MP
open PySem PySem.Spec L2 PyProof.Rows
section
variable {cs : List D} {cn : List Str} {fds : List FD} {k : Nat}
theorem eq_len : n_len = ("len" : Str) := by decide
theorem eq_abs : n_abs = ("abs" : Str) := by decide
theorem eq_sum : n_sum = ("sum" : Str) := by decide
theorem eq_min : n_min = ("min" : Str) := by decide
theorem eq_max : n_max = ("max" : Str) := by decide
theorem eq_sorted : n_sorted = ("sorted" : Str) := by decide
theorem eq_list : n_list = ("list" : Str) := by decide
theorem eq_tuple : n_tuple = ("tuple" : Str) := by decide
theorem eq_int : n_int = ("int" : Str) := by decide
theorem eq_str : n_str = ("str" : Str) := by decide
theorem eq_repr : n_repr = ("repr" : Str) := by decide
theorem eq_any : n_any = ("any" : Str) := by decide
theorem eq_all : n_all = ("all" : Str) := by decide
theorem eq_isinstance : n_isinstance = ("isinstance" : Str) := by decide
theorem eq_bool : n_bool = ("bool" : Str) := by decide
theorem eq_set : n_set = ("set" : Str) := by decide
theorem eq_zip : n_zip = ("zip" : Str) := by decide
theorem eq_range : n_range = ("range" : Str) := by decide
theorem eq_enumerate : n_enumerate = ("enumerate" : Str) := by decide
theorem eq_append : n_append = ("append" : Str) := by decide
theorem eq_extend : n_extend = ("extend" : Str) := by decide
theorem eq_pop : n_pop = ("pop" : Str) := by decide
theorem not_names : ∀ x ∈ bltNames, x ≠ ("__name__" : Str) ∧ (x == ("__debug__" : Str)) = false := by decide +kernel
variable {Γ : Gam} {X : Cx} {pos p p2 : Pos} {x : Str} {e : Expr} {es : List Expr} {ds : DenL}
theorem bi_B {b : BI} {id : String} {g : B1} (G : GoodX cs cn fds k Γ X) (hb : biD b = g) (hc : CallR X (.builtin id) (rOp1 X.K g)) (hv : bootBuiltins x = some (.builtin id)) (hx : x ∈ bltNames) (hg : glB Γ.sc x = true) (ha : PA X (e :: es) (tL X.K ds)) (hs : (e :: es).all (fun e => !isStar e) = true) :
    PE X (.Call (.Name x p) (e :: es) [] pos) (tD X.K (kBi b ds)) := pd_biB hb hc (gl_of G hg) (G.blt x hx) hv ha (not_names x hx).1 (not_names x hx).2 hs
theorem bi_T {b : BI} {id : String} {g : B1} (G : GoodX cs cn fds k Γ X) (hb : biD b = g) (hc : CallR X (.type id) (rOp1 X.K g)) (hv : bootBuiltins x = some (.type id)) (hx : x ∈ bltNames) (hg : glB Γ.sc x = true) (ha : PA X (e :: es) (tL X.K ds)) (hs : (e :: es).all (fun e => !isStar e) = true) :
    PE X (.Call (.Name x p) (e :: es) [] pos) (tD X.K (kBi b ds)) := pd_biT hb hc (gl_of G hg) (G.blt x hx) hv ha (not_names x hx).1 (not_names x hx).2 hs
theorem bi_any {b : BI} (G : GoodX cs cn fds k Γ X) (hp : plainBi b = true) (hx : x = biS b) (hg : glB Γ.sc x = true) (ha : PA X (e :: es) (tL X.K ds)) (hs : (e :: es).all (fun e => !isStar e) = true) :
    PE X (.Call (.Name x p) (e :: es) [] pos) (tD X.K (kBi b ds)) := by
  have hc := G.calm
  have hu := G.un
  subst hx
  cases b with
  | len => exact bi_B G rfl cb_len (by rw [show biS .len = "len" from eq_len]; exact PySem.boot_len) (by decide) hg ha hs
  | abs => exact bi_B G rfl cb_abs (by rw [show biS .abs = "abs" from eq_abs]; decide +kernel) (by decide) hg ha hs
  | sum => exact bi_B G rfl (cb_sum hc) (by rw [show biS .sum = "sum" from eq_sum]; decide +kernel) (by decide) hg ha hs
  | mn => exact bi_B G rfl (cb_mn hc hu) (by rw [show biS .mn = "min" from eq_min]; decide +kernel) (by decide) hg ha hs
  | mx => exact bi_B G rfl (cb_mx hc hu) (by rw [show biS .mx = "max" from eq_max]; decide +kernel) (by decide) hg ha hs
  | mn2 => exact bi_B G rfl (cb_mn2 hc) (by rw [show biS .mn2 = "min" from eq_min]; decide +kernel) (by decide) hg ha hs
  | mx2 => exact bi_B G rfl (cb_mx2 hc) (by rw [show biS .mx2 = "max" from eq_max]; decide +kernel) (by decide) hg ha hs
  | srt => exact bi_B G rfl (cb_srt hu) (by rw [show biS .srt = "sorted" from eq_sorted]; decide +kernel) (by decide) hg ha hs
  | lst => exact bi_T G rfl cb_lst (by rw [show biS .lst = "list" from eq_list]; decide +kernel) (by decide) hg ha hs
  | tup => exact bi_T G rfl cb_tup (by rw [show biS .tup = "tuple" from eq_tuple]; decide +kernel) (by decide) hg ha hs
  | int => exact bi_T G rfl cb_int (by rw [show biS .int = "int" from eq_int]; decide +kernel) (by decide) hg ha hs
  | str => exact bi_T G rfl cb_str (by rw [show biS .str = "str" from eq_str]; decide +kernel) (by decide) hg ha hs
  | repr => exact bi_B G rfl (cb_repr G.gd hu) (by rw [show biS .repr = "repr" from eq_repr]; decide +kernel) (by decide) hg ha hs
  | any => exact bi_B G rfl (cb_any hc) (by rw [show biS .any = "any" from eq_any]; decide +kernel) (by decide) hg ha hs
  | all => exact bi_B G rfl (cb_all hc) (by rw [show biS .all = "all" from eq_all]; decide +kernel) (by decide) hg ha hs
  | _ => cases hp
theorem bi_is {b : BI} {f : D → Bool} {T : String} {y : Str} {d : Den} (G : GoodX cs cn fds k Γ X) (hb : biD b = bIs f) (hk : ∀ d, kitB (tyD d) T = some (f d)) (hx : x = n_isinstance) (hg : glB Γ.sc x = true) (hy : y ∈ bltNames) (hvy : bootBuiltins y = some (.type T)) (hg2 : glB Γ.sc y = true)
    (he : PE X e (tD X.K d)) (hs : isStar e = false) : PE X (.Call (.Name x p) [e, .Name y p2] [] pos) (tD X.K (kBi b (kCons d kNil))) := by
  have hxm : x ∈ bltNames := by rw [hx]; decide
  exact pd_is hb hk (gl_of G hg) (G.blt x hxm) (by rw [hx, eq_isinstance]; decide +kernel) (gl_of G hg2) (G.blt y hy) hvy he (not_names x hxm).1 (not_names x hxm).2 (not_names y hy).1 (not_names y hy).2 hs
theorem ns (l : List Expr) (h : noStars l = true) : l.all (fun e => !isStar e) = true := h
theorem ns1 {e : Expr} (h : (!isStar e) = true) : isStar e = false := by simpa using h
end
end MP
end

section
set_option Elab.async false
set_option linter.all false
set_option maxRecDepth 100000
set_option maxHeartbeats 8000000
namespace MP
open PySem PySem.Spec L2 PyProof.Rows
section
variable {cs : List D} {cn : List Str} {fds : List FD} {k : Nat}
theorem ix_plain {b : Expr} (h : isSlice b = false) : PlainIx b := fun o i => by cases b <;> first | rfl | cases h
theorem sub_plain {o i : Expr} {pos : Pos} {env : Env} (h : isSlice i = false) (v : Value) : assign (.Subscript o i pos) env v = (do
      let ov ← holding [v] (eval o env)
      let iv ← holding [v, ov] (eval i env)
      standAt pos
      holding [v, ov, iv] (setItem ov iv v)
      release [v, ov, iv] []) := by cases i <;> first | rfl | cases h
theorem set_plain {e : Expr} {env : Env} (h : isSet e = false) (x : Value) : foldedSetIterable e env x = pure x := by cases e <;> first | rfl | cases h
theorem gen_true {ex : Expr} {env : Env} (h : genB ex = true) : ∀ whole, isTrue ex env whole = (do let v ← whole; standAt ex.pos; holding [v] (truthy v)) := fun whole => by cases ex <;> first | rfl | cases h
mutual
theorem sE : ∀ (e : E) {Γ : Gam} {X : Cx} (G : GoodX cs cn fds k Γ X) {ex : Expr}, chkE cn fds Γ e ex = true → PE X ex (tD X.K (dE (runF cs fds k) cs e)) ∧ PT X ex (tT X.K (dE (runF cs fds k) cs e))
  | .v i, Γ, X, G, ex, h => by
    unfold chkE at h
    split at h
    case h_2 => cases h
    simp only [Bool.and_eq_true, decide_eq_true_eq] at h
    obtain ⟨⟨h1, h2⟩, h3⟩ := h
    exact pt_gen (pd_V (by rw [G.N]; exact h1) (vis_of G h2) (nm_of h3).1 (nm_of h3).2) fun _ => rfl
  | .c d, Γ, X, G, ex, h => by
    unfold chkE at h
    exact pd_Const h
  | .g j, Γ, X, G, ex, h => by
    unfold chkE at h
    split at h
    case h_2 => cases h
    simp only [Bool.and_eq_true, decide_eq_true_eq] at h
    obtain ⟨⟨h1, h2⟩, h3⟩ := h
    obtain ⟨u, v, d, c1, c2, c3, c4⟩ := G.cst j _ h1
    exact pt_gen (pd_G (gl_of G h2) c2 c3 (nm_of h3).1 c1 c4) fun _ => rfl
  | .tup es, Γ, X, G, ex, h => by
    unfold chkE at h
    split at h
    case h_2 => cases h
    rw [Bool.and_eq_true] at h
    exact pt_gen (pd_Tup (sEs es G h.1 h.2)) fun _ => rfl
  | .lst es, Γ, X, G, ex, h => by
    unfold chkE at h
    split at h
    case h_2 => cases h
    rw [Bool.and_eq_true] at h
    exact pt_gen (pd_Lst (sEs es G h.1 h.2)) fun _ => rfl
  | .bin op a b, Γ, X, G, ex, h => by
    unfold chkE at h
    split at h
    case h_2 => cases h
    simp only [Bool.and_eq_true, decide_eq_true_eq] at h
    obtain ⟨⟨rfl, h2⟩, h3⟩ := h
    exact pt_gen (pd_Bin (sE a G h2).1 (sE b G h3).1) fun _ => rfl
  | .neg a, Γ, X, G, ex, h => by
    unfold chkE at h
    split at h
    case h_2 => cases h
    exact pt_gen (pd_Neg (sE a G h).1) fun _ => rfl
  | .not a, Γ, X, G, ex, h => by
    unfold chkE at h
    split at h
    case h_2 => cases h
    exact ⟨pd_Not (sE a G h).1, pt_Not (sE a G h).2⟩
  | .cmp op a b, Γ, X, G, ex, h => by
    unfold chkE at h
    split at h
    case h_2 => cases h
    simp only [Bool.and_eq_true, decide_eq_true_eq] at h
    obtain ⟨⟨⟨rfl, h2⟩, h3⟩, h4⟩ := h
    exact ⟨pd_Cmp G.un (sE a G h2).1 (sE b G h3).1 (by simpa using h4), pt_Cmp G.un (sE a G h2).1 (sE b G h3).1 (by simpa using h4)⟩
  | .chain o1 o2 a b c, Γ, X, G, ex, h => by
    unfold chkE at h
    split at h
    case h_2 => cases h
    simp only [Bool.and_eq_true, decide_eq_true_eq] at h
    obtain ⟨⟨⟨⟨⟨rfl, rfl⟩, h2⟩, h3⟩, h4⟩, h5⟩ := h
    exact ⟨pd_Chain G.un (sE a G h2).1 (sE b G h3).1 (sE c G h4).1 (by simpa using h5), pt_Chain G.un (sE a G h2).1 (sE b G h3).1 (sE c G h4).1 (by simpa using h5)⟩
  | .and a b, Γ, X, G, ex, h => by
    unfold chkE at h
    split at h
    case h_3 => cases h
    · rw [Bool.and_eq_true] at h
      exact ⟨pd_And (sE a G h.1).1 (pd_One .And (sE b G h.2).1), (pw_And (sE a G h.1).2 (pw_and1 (sE b G h.2).2)).pt⟩
    · rw [Bool.and_eq_true] at h
      exact ⟨pd_And (sE a G h.1).1 (sE b G h.2).1, (pw_And (sE a G h.1).2 (pw_of (sE b G h.2).2)).pt⟩
  | .or a b, Γ, X, G, ex, h => by
    unfold chkE at h
    split at h
    case h_3 => cases h
    · rw [Bool.and_eq_true] at h
      exact ⟨pd_Or (sE a G h.1).1 (pd_One .Or (sE b G h.2).1), (pw_Or (sE a G h.1).2 (pw_or1 (sE b G h.2).2)).pt⟩
    · rw [Bool.and_eq_true] at h
      exact ⟨pd_Or (sE a G h.1).1 (sE b G h.2).1, (pw_Or (sE a G h.1).2 (pw_of (sE b G h.2).2)).pt⟩
  | .ite t a b, Γ, X, G, ex, h => by
    unfold chkE at h
    split at h
    case h_2 => cases h
    simp only [Bool.and_eq_true] at h
    exact ⟨pd_Ite (sE t G h.1.1).2 (sE a G h.1.2).1 (sE b G h.2).1, pt_Ite (sE t G h.1.1).2 (sE a G h.1.2).2 (sE b G h.2).2⟩
  | .ix a b, Γ, X, G, ex, h => by
    unfold chkE at h
    split at h
    case h_2 => cases h
    simp only [Bool.and_eq_true] at h
    exact pt_gen (pd_Ix (sE a G h.1.1).1 (sE b G h.1.2).1 (ix_plain (by simpa using h.2))) fun _ => rfl
  | .sl b1 b2 a lo hi, Γ, X, G, ex, h => by
    unfold chkE at h
    split at h
    case h_2 => cases h
    rename_i x l hh p2 p
    rw [Bool.and_eq_true, Bool.and_eq_true] at h
    obtain ⟨⟨h1, h2⟩, h3⟩ := h
    refine pt_gen (pd_Sl (sE a G h1).1 ?_ ?_) fun _ => rfl
    · cases l with
      | none =>
        have e : b1 = false := by simpa using h2
        subst e
        exact po_No
      | some el =>
        rw [Bool.and_eq_true] at h2
        obtain ⟨rfl, h2⟩ := h2
        exact po_Some (sE lo G h2).1
    · cases hh with
      | none =>
        have e : b2 = false := by simpa using h3
        subst e
        exact po_No
      | some el =>
        rw [Bool.and_eq_true] at h3
        obtain ⟨rfl, h3⟩ := h3
        exact po_Some (sE hi G h3).1
  | .none, Γ, X, G, ex, h => by
    unfold chkE at h
    cases h
  | .rev a, Γ, X, G, ex, h => by
    unfold chkE at h
    split at h
    case h_2 => cases h
    exact pt_gen (pd_Rev (sE a G h).1) fun _ => rfl
  | .call f ps kws pm, Γ, X, G, ex, h => by
    unfold chkE at h
    split at h
    case h_2 => cases h
    rename_i x px l ks pos
    simp only [Bool.and_eq_true] at h
    obtain ⟨⟨⟨⟨⟨⟨h1, h2⟩, h3⟩, h4⟩, h5⟩, h6⟩, h7⟩ := h
    cases hf : fds[f]? with
    | none => rw [hf] at h1; cases h1
    | some fd =>
    rw [hf] at h1
    simp only [Bool.and_eq_true, decide_eq_true_eq] at h1
    obtain ⟨rfl, h1⟩ := h1
    obtain ⟨fa, fdt, f1, f2, f3, f4⟩ := G.fns f fd hf
    exact pt_gen (pd_Call f4 G.room G.gd f3 (gl_of G h2) f1 f2 (nm_of h3).1 h1 h6 h7 (len_Es _ ps l h4) (len_Ks _ kws ks h5) (sEs ps G h4 h6) (sKs kws G h5)) fun _ => rfl
  | .bi b es, Γ, X, G, ex, h => by
    unfold chkE at h
    exact sBi b es G h
  | .meth m o es, Γ, X, G, ex, h => by
    unfold chkE at h
    split at h
    case h_2 => cases h
    rename_i ob name apos l cpos
    simp only [Bool.and_eq_true, decide_eq_true_eq] at h
    obtain ⟨⟨⟨⟨⟨⟨⟨rfl, h2⟩, h3⟩, h4⟩, h5⟩, h6⟩, h7⟩, h8⟩ := h
    have ho := (sE o G h2).1
    have hb := base_of (name := meS m) (env := X.env) h6
    have hpa := sEs es G h3 h4
    refine pt_gen ?_ fun _ => rfl
    cases l with
    | nil =>
      cases m with
      | pop =>
        cases es with
        | nil =>
          have e : meS .pop = ("pop" : Str) := eq_pop
          rw [e] at hb ⊢
          exact pd_Pop PySem.F.plainAttrs_list PySem.F.slot_list_pop PySem.F.type_list_pop ho hb h7
        | cons _ _ => unfold chkEs at h3; cases h3
      | append => simp at h8
      | extend => simp at h8
      | popAt => simp at h8
    | cons e l =>
      cases m with
      | pop => simp at h8
      | append =>
        have e1 : meS .append = ("append" : Str) := eq_append
        rw [e1] at hb ⊢
        exact pd_Meth PySem.F.plainAttrs_list PySem.F.slot_list_append PySem.F.type_list_append m_append ho hpa hb h7 h4 h5
      | extend =>
        have e1 : meS .extend = ("extend" : Str) := eq_extend
        rw [e1] at hb ⊢
        exact pd_Meth PySem.F.plainAttrs_list PySem.F.slot_list_extend PySem.F.type_list_extend m_extend ho hpa hb h7 h4 h5
      | popAt =>
        have e1 : meS .popAt = ("pop" : Str) := eq_pop
        rw [e1] at hb ⊢
        exact pd_Meth PySem.F.plainAttrs_list PySem.F.slot_list_pop PySem.F.type_list_pop m_popAt ho hpa hb h7 h4 h5
  | .lc elt tg it ifs own, Γ, X, G, ex, h => by
    unfold chkE at h
    split at h
    case h_2 => cases h
    rename_i el t iter fs a scope pos
    simp only [Bool.and_eq_true, decide_eq_true_eq] at h
    obtain ⟨⟨⟨⟨⟨⟨⟨rfl, h2⟩, h3⟩, h4⟩, h5⟩, h6⟩, h7⟩, h8⟩ := h
    have ok := blk_of h2
    rw [← G.N, ← G.sc] at ok
    have e1 := pd_Lc (X := X) (pos := pos) (vs := slT tg) (scope := scope) (own := ownP X.N own) (de := dE (runF cs fds k) cs elt) (g := dT (runF cs fds k) cs tg) (it := dI (runF cs fds k) cs it) (di := dIf (runF cs fds k) cs ifs) (fun j hj => by
        rw [ownP_snd]
        exact of_decide_eq_true (List.all_eq_true.mp h7 j hj)) G.calm (by rw [G.N]; exact G.nd) (sI it G h5) (by rw [G.N] at ok ⊢; exact ok)
      (fun s H C cl fp => sT tg (G.blk scope s H C cl fp) (fun j hj => hj) h4) (fun s H C cl fp => sIf ifs (G.blk scope s H C cl fp) h6) (fun s H C cl fp => (sE elt (G.blk scope s H C cl fp) h3).1) (set_plain (by simpa using h8))
    rw [ownP_snd] at e1
    exact pt_gen e1 fun _ => rfl
  | .al e, Γ, X, G, ex, h => by
    unfold chkE at h
    rw [Bool.and_eq_true] at h
    exact pt_gen (pd_Al (sE e G h.1).1) (gen_true h.2)
theorem sBi : ∀ (b : BI) (es : Es) {Γ : Gam} {X : Cx} (G : GoodX cs cn fds k Γ X) {ex : Expr}, chkBi cn fds Γ b es ex = true → PE X ex (tD X.K (kBi b (dEs (runF cs fds k) cs es))) ∧ PT X ex (tT X.K (kBi b (dEs (runF cs fds k) cs es)))
  | b, .nil, Γ, X, G, ex, h => by
    unfold chkBi at h
    cases h
  | b, .cons e1 .nil, Γ, X, G, ex, h => by
    unfold chkBi at h
    split at h
    · simp only [Bool.and_eq_true, decide_eq_true_eq] at h
      obtain ⟨⟨⟨⟨⟨h1, h2⟩, rfl⟩, h4⟩, h5⟩, h6⟩ := h
      exact pt_gen (bi_is G rfl kind_int h1 h2 (by decide) (by rw [eq_int]; decide +kernel) h4 (sE e1 G h5).1 (ns1 h6)) fun _ => rfl
    · simp only [Bool.and_eq_true, decide_eq_true_eq] at h
      obtain ⟨⟨⟨⟨⟨h1, h2⟩, rfl⟩, h4⟩, h5⟩, h6⟩ := h
      exact pt_gen (bi_is G rfl kind_bool h1 h2 (by decide) (by rw [eq_bool]; decide +kernel) h4 (sE e1 G h5).1 (ns1 h6)) fun _ => rfl
    · simp only [Bool.and_eq_true, decide_eq_true_eq] at h
      obtain ⟨⟨⟨⟨⟨h1, h2⟩, rfl⟩, h4⟩, h5⟩, h6⟩ := h
      exact pt_gen (bi_is G rfl kind_tup h1 h2 (by decide) (by rw [eq_tuple]; decide +kernel) h4 (sE e1 G h5).1 (ns1 h6)) fun _ => rfl
    · simp only [Bool.and_eq_true, decide_eq_true_eq] at h
      obtain ⟨⟨⟨⟨⟨h1, h2⟩, rfl⟩, h4⟩, h5⟩, h6⟩ := h
      exact pt_gen (bi_is G rfl kind_lst h1 h2 (by decide) (by rw [eq_list]; decide +kernel) h4 (sE e1 G h5).1 (ns1 h6)) fun _ => rfl
    · simp only [Bool.and_eq_true, decide_eq_true_eq] at h
      obtain ⟨⟨⟨⟨⟨h1, h2⟩, rfl⟩, h4⟩, h5⟩, h6⟩ := h
      exact pt_gen (bi_is G rfl kind_str h1 h2 (by decide) (by rw [eq_str]; decide +kernel) h4 (sE e1 G h5).1 (ns1 h6)) fun _ => rfl
    · simp only [Bool.and_eq_true, decide_eq_true_eq] at h
      obtain ⟨⟨⟨⟨⟨rfl, h2⟩, rfl⟩, h4⟩, h5⟩, h6⟩ := h
      have m1 := G.blt n_len (by decide)
      have m2 := G.blt n_set (by decide)
      have g1 := gl_of G h2
      have g2 := gl_of G h4
      rw [eq_len] at m1 g1 ⊢
      rw [eq_set] at m2 g2 ⊢
      exact pt_gen (pd_lenset G.calm g1 m1 g2 m2 (sE e1 G h5).1 (ns1 h6)) fun _ => rfl
    · simp only [Bool.and_eq_true, decide_eq_true_eq] at h
      obtain ⟨⟨⟨⟨⟨rfl, h2⟩, rfl⟩, h4⟩, h5⟩, h6⟩ := h
      have m1 := G.blt n_list (by decide)
      have m2 := G.blt n_range (by decide)
      have g1 := gl_of G h2
      have g2 := gl_of G h4
      rw [eq_list] at m1 g1 ⊢
      rw [eq_range] at m2 g2 ⊢
      exact pt_gen (pd_lrng1 G.calm g1 m1 g2 m2 (sE e1 G h5).1 (ns1 h6)) fun _ => rfl
    · rename_i q; cases q
    · rename_i q; cases q
    · simp only [Bool.and_eq_true, decide_eq_true_eq] at h
      obtain ⟨⟨⟨⟨⟨h1, h2⟩, h3⟩, h4⟩, h5⟩, h6⟩ := h
      have h6' := h6
      unfold noStars at h6
      rw [List.all_cons, Bool.and_eq_true] at h6
      exact pt_gen (bi_any G h1 h2 h3 (pa_Cons (sE e1 G h4).1 (sEs .nil G h5 h6.2) (star_cons _ _ _ (ns1 h6.1))) h6') fun _ => rfl
    · cases h
  | b, .cons e1 (.cons e2 es2), Γ, X, G, ex, h => by
    unfold chkBi at h
    split at h
    · rename_i q; cases q
    · rename_i q; cases q
    · rename_i q; cases q
    · rename_i q; cases q
    · rename_i q; cases q
    · rename_i q; cases q
    · rename_i q; cases q
    · rename_i q; cases q
      simp only [Bool.and_eq_true, decide_eq_true_eq] at h
      obtain ⟨⟨⟨⟨⟨⟨⟨rfl, h2⟩, rfl⟩, h4⟩, h5⟩, h6⟩, h7⟩, h8⟩ := h
      have m1 := G.blt n_list (by decide)
      have m2 := G.blt n_range (by decide)
      have g1 := gl_of G h2
      have g2 := gl_of G h4
      rw [eq_list] at m1 g1 ⊢
      rw [eq_range] at m2 g2 ⊢
      exact pt_gen (pd_lrng2 G.calm g1 m1 g2 m2 (sE e1 G h5).1 (sE e2 G h6).1 (ns1 h7) (ns1 h8)) fun _ => rfl
    · rename_i q; cases q
      simp only [Bool.and_eq_true, decide_eq_true_eq] at h
      obtain ⟨⟨⟨⟨⟨⟨⟨rfl, h2⟩, rfl⟩, h4⟩, h5⟩, h6⟩, h7⟩, h8⟩ := h
      have m1 := G.blt n_list (by decide)
      have m2 := G.blt n_zip (by decide)
      have g1 := gl_of G h2
      have g2 := gl_of G h4
      rw [eq_list] at m1 g1 ⊢
      rw [eq_zip] at m2 g2 ⊢
      exact pt_gen (pd_lzip G.calm g1 m1 g2 m2 (sE e1 G h5).1 (sE e2 G h6).1 (ns1 h7) (ns1 h8)) fun _ => rfl
    · simp only [Bool.and_eq_true, decide_eq_true_eq] at h
      obtain ⟨⟨⟨⟨⟨h1, h2⟩, h3⟩, h4⟩, h5⟩, h6⟩ := h
      have h6' := h6
      unfold noStars at h6
      rw [List.all_cons, Bool.and_eq_true] at h6
      exact pt_gen (bi_any G h1 h2 h3 (pa_Cons (sE e1 G h4).1 (sEs (.cons e2 es2) G h5 h6.2) (star_cons _ _ _ (ns1 h6.1))) h6') fun _ => rfl
    · cases h
theorem sEs : ∀ (es : Es) {Γ : Gam} {X : Cx} (G : GoodX cs cn fds k Γ X) {l : List Expr}, chkEs cn fds Γ es l = true → noStars l = true → PA X l (tL X.K (dEs (runF cs fds k) cs es))
  | .nil, Γ, X, G, [], h, _ => pa_Nil
  | .cons e es, Γ, X, G, x :: l, h, hs => by
    unfold chkEs at h
    unfold noStars at hs
    rw [Bool.and_eq_true] at h
    rw [List.all_cons, Bool.and_eq_true] at hs
    exact pa_Cons (sE e G h.1).1 (sEs es G h.2 hs.2) (star_cons _ _ _ (ns1 hs.1))
  | .nil, Γ, X, G, _ :: _, h, _ => by unfold chkEs at h; cases h
  | .cons _ _, Γ, X, G, [], h, _ => by unfold chkEs at h; cases h
theorem sKs : ∀ (es : Es) {Γ : Gam} {X : Cx} (G : GoodX cs cn fds k Γ X) {l : List Keyword}, chkKs cn fds Γ es l = true → PK X l (tL X.K (dEs (runF cs fds k) cs es))
  | .nil, Γ, X, G, [], h => pk_Nil
  | .cons e es, Γ, X, G, ⟨n, x, p⟩ :: l, h => by
    unfold chkKs at h
    rw [Bool.and_eq_true] at h
    exact pk_Cons (sE e G h.1).1 (sKs es G h.2)
  | .nil, Γ, X, G, _ :: _, h => by unfold chkKs at h; cases h
  | .cons _ _, Γ, X, G, [], h => by unfold chkKs at h; cases h
theorem sIf : ∀ (es : Es) {Γ : Gam} {X : Cx} (G : GoodX cs cn fds k Γ X) {l : List Expr}, chkIf cn fds Γ es l = true → PTs X l (tTs X.K (dIf (runF cs fds k) cs es))
  | .nil, Γ, X, G, [], h => pts_Nil
  | .cons e .nil, Γ, X, G, [x], h => by
    unfold chkIf at h
    exact pts_One (sE e G h).2
  | .nil, Γ, X, G, _ :: _, h => by unfold chkIf at h; cases h
  | .cons _ (.cons _ _), Γ, X, G, _, h => by unfold chkIf at h; cases h
  | .cons _ .nil, Γ, X, G, [], h => by unfold chkIf at h; cases h
  | .cons _ .nil, Γ, X, G, _ :: _ :: _, h => by unfold chkIf at h; cases h
theorem sT : ∀ (t : T) {Γ : Gam} {X : Cx} (G : GoodX cs cn fds k Γ X) {ex : Expr} {vs : List Nat} (hv : ∀ j ∈ slT t, j ∈ vs), chkT cn fds Γ t ex = true → PG X ex (tG X.K vs (dT (runF cs fds k) cs t))
  | .nm i, Γ, X, G, ex, vs, hv, h => by
    unfold chkT at h
    split at h
    case h_2 => cases h
    simp only [Bool.and_eq_true, Bool.or_eq_true, decide_eq_true_eq] at h
    obtain ⟨⟨h1, h2⟩, h3⟩ := h
    refine pg_Nm (hv i (by unfold slT; exact List.mem_cons_self)) (by rw [G.N]; exact G.nd) (by rw [G.N]; exact h1) (loc_of G h2) ?_
    rcases h3 with h3 | h3
    · exact .inl (G.cel _ h3)
    · exact .inr (isloc_of G h3)
  | .tp ts, Γ, X, G, ex, vs, hv, h => by
    unfold chkT at h
    split at h
    case h_2 => cases h
    simp only [Bool.and_eq_true, decide_eq_true_eq] at h
    obtain ⟨⟨h1, h2⟩, h3⟩ := h
    exact pg_Tp G.calm (sTs ts G (fun j hj => hv j (by unfold slT; exact hj)) h1 h2) h2 h3 (len_Ts _ ts)
  | .sb a i, Γ, X, G, ex, vs, hv, h => by
    unfold chkT at h
    split at h
    case h_2 => cases h
    simp only [Bool.and_eq_true] at h
    obtain ⟨⟨h1, h2⟩, h3⟩ := h
    exact pg_Sb (sE a G h1).1 (sE i G h2).1 (sub_plain (by simpa using h3))
theorem sTs : ∀ (ts : Ts) {Γ : Gam} {X : Cx} (G : GoodX cs cn fds k Γ X) {l : List Expr} {vs : List Nat} (hv : ∀ j ∈ slTs ts, j ∈ vs), chkTs cn fds Γ ts l = true → noStars l = true → PGs X l (tGs X.K vs (dTs (runF cs fds k) cs ts))
  | .nil, Γ, X, G, [], vs, hv, h, _ => pgs_Nil
  | .cons t ts, Γ, X, G, x :: l, vs, hv, h, hs => by
    unfold chkTs at h
    unfold noStars at hs
    rw [Bool.and_eq_true] at h
    rw [List.all_cons, Bool.and_eq_true] at hs
    exact pgs_Cons (sT t G (fun j hj => hv j (by unfold slTs; exact List.mem_append_left _ hj)) h.1) (sTs ts G (fun j hj => hv j (by unfold slTs; exact List.mem_append_right _ hj)) h.2 hs.2) (ns1 hs.1)
  | .nil, Γ, X, G, _ :: _, vs, hv, h, _ => by unfold chkTs at h; cases h
  | .cons _ _, Γ, X, G, [], vs, hv, h, _ => by unfold chkTs at h; cases h
theorem sI : ∀ (t : I) {Γ : Gam} {X : Cx} (G : GoodX cs cn fds k Γ X) {tg ex : Expr}, chkI cn fds Γ t tg ex = true → PI X tg ex (tI X.K (dI (runF cs fds k) cs t))
  | .e a, Γ, X, G, tg, ex, h => by
    unfold chkI at h
    exact pi_e (sE a G h).1
  | .rg1 a, Γ, X, G, tg, ex, h => by
    unfold chkI at h
    split at h
    case h_2 => cases h
    simp only [Bool.and_eq_true, decide_eq_true_eq] at h
    obtain ⟨⟨⟨rfl, h2⟩, h3⟩, h4⟩ := h
    exact pi_rg1 eq_range (gl_of G h2) (G.blt _ (by decide)) (sE a G h3).1 (ns1 h4)
  | .rg2 a b, Γ, X, G, tg, ex, h => by
    unfold chkI at h
    split at h
    case h_2 => cases h
    simp only [Bool.and_eq_true, decide_eq_true_eq] at h
    obtain ⟨⟨⟨⟨⟨rfl, h2⟩, h3⟩, h4⟩, h5⟩, h6⟩ := h
    exact pi_rg2 eq_range (gl_of G h2) (G.blt _ (by decide)) (sE a G h3).1 (sE b G h4).1 (ns1 h5) (ns1 h6)
  | .en a, Γ, X, G, tg, ex, h => by
    unfold chkI at h
    split at h
    case h_2 => cases h
    simp only [Bool.and_eq_true, decide_eq_true_eq] at h
    obtain ⟨⟨⟨rfl, h2⟩, h3⟩, h4⟩ := h
    exact pi_en eq_enumerate (gl_of G h2) (G.blt _ (by decide)) (sE a G h3).1 (ns1 h4)
  | .zp a b, Γ, X, G, tg, ex, h => by
    unfold chkI at h
    split at h
    case h_2 => cases h
    simp only [Bool.and_eq_true, decide_eq_true_eq] at h
    obtain ⟨⟨⟨⟨⟨rfl, h2⟩, h3⟩, h4⟩, h5⟩, h6⟩ := h
    exact pi_zp eq_zip (gl_of G h2) (G.blt _ (by decide)) (sE a G h3).1 (sE b G h4).1 (ns1 h5) (ns1 h6)
end
end
end MP
end

section
set_option Elab.async false
set_option linter.all false
set_option maxRecDepth 100000
set_option maxHeartbeats 8000000
namespace MP
open PySem PySem.Spec L2 PyProof.Rows
/-! ### swaps -/
def swNames (sc : Scope) (ts : List Expr) : List Str := ts.filterMap fun
  | .Name id pos => if sc.names.lookup id == some .local && pos.line == (ts.head?.map (·.pos.line)).getD 0 then some id else none
  | _ => none
def swB (sc : Scope) (tg v : Expr) : Option (Option (List Str)) := match tg, v with
  | .Tuple ts _ _, .Tuple vs _ _ =>
    if (!(ts.length == 2 || ts.length == 3) || vs.length != ts.length) = true then some none
    else if (vs.any fun | .Starred .. => true | _ => false) = true then some none
    else if ((swNames sc ts).length != ts.length || (swNames sc ts).eraseDups.length != (swNames sc ts).length) = true then some none
    else if (vs.all (foldedForSure 8)) = true then some none
    else if (vs.all (constantsAlone 8)) = true then none
    else some (some (swNames sc ts))
  | .List _ _, _ => none
  | _, _ => some none
theorem swB_ok {env : Env} {sc : Scope} {tg v : Expr} {r : Option (List Str)} (hs : env.scope = sc) (hk : sc.kind = .function) (h : swB sc tg v = some r) : swappedStores [tg] v env = pure r := by
  have hb : env.blockKind = .function := by unfold Env.blockKind; rw [hs, hk]; rfl
  subst hs
  unfold swB at h
  split at h
  · rename_i ts k1 p1 vs k2 p2
    have key : swappedStores [.Tuple ts k1 p1] (.Tuple vs k2 p2) env = (if (!(ts.length == 2 || ts.length == 3) || vs.length != ts.length || env.blockKind != .function) = true then pure none
      else if (vs.any fun | .Starred .. => true | _ => false) = true then pure none
      else if ((swNames env.scope ts).length != ts.length || (swNames env.scope ts).eraseDups.length != (swNames env.scope ts).length) = true then pure none
      else if (vs.all (foldedForSure 8)) = true then pure none
      else if (vs.all (constantsAlone 8)) = true then (do unsupported "assign.tuple-of-constant-expressions:order-of-the-stores"; pure (some (swNames env.scope ts))) else pure (some (swNames env.scope ts))) := rfl
    rw [key, hb]
    simp only [bne_self_eq_false, Bool.or_false]
    split at h
    · rename_i c; rw [if_pos c]; cases h; rfl
    rename_i c; rw [if_neg c]
    split at h
    · rename_i c; rw [if_pos c]; cases h; rfl
    rename_i c; rw [if_neg c]
    split at h
    · rename_i c; rw [if_pos c]; cases h; rfl
    rename_i c; rw [if_neg c]
    split at h
    · rename_i c; rw [if_pos c]; cases h; rfl
    rename_i c; rw [if_neg c]
    split at h
    · cases h
    rename_i c; rw [if_neg c]
    cases h; rfl
  · cases h
  · rename_i h1 h2
    cases h
    cases tg with
    | Tuple ts a b =>
      cases v with
      | Tuple vs c d => first | exact absurd rfl (h1 ts a b vs c d rfl) | exact (h1 _ _ _ _ _ _ rfl rfl).elim | exact (h2 _ _ _ _ _ _ rfl rfl).elim
      | _ => rfl
    | List ts a => first | exact (h2 _ _ rfl).elim | exact (h1 _ _ rfl).elim
    | _ => rfl
def swA (sc : Scope) (tg v : Expr) : Option Bool := match v with
  | .ListComp _ _ s p => match tg with
    | .Name t pos => some (sc.names.lookup t == some .local && pos.line == p.line && !(s.names.any fun (n, k) => n == t && (k == .local || k == .cell)))
    | _ => some false
  | .SetComp _ _ _ _ => none
  | .DictComp _ _ _ _ _ => none
  | _ => some false
theorem swA_ok {env : Env} {sc : Scope} {tg v : Expr} {b : Bool} {l : Nat} (hs : env.scope = sc) (hk : sc.kind = .function) (h : swA sc tg v = some b) : swapsWithSole [tg] v l env = pure b := by
  have hb : env.blockKind = .function := by unfold Env.blockKind; rw [hs, hk]; rfl
  subst hs
  unfold swA at h
  split at h
  · split at h
    · cases h
      unfold swapsWithSole swapsWith
      simp only [hb]
      rfl
    · rename_i hn
      cases h
      cases tg with
      | Name t pos => exact absurd rfl (hn t pos)
      | _ => rfl
  · cases h
  · cases h
  · rename_i h1 h2 h3
    cases h
    cases v with
    | ListComp a b c d => exact absurd rfl (h1 a b c d)
    | SetComp a b c d => exact absurd rfl (h2 a b c d)
    | DictComp a b c d e => exact absurd rfl (h3 a b c d e)
    | _ => rfl
def isComp : Expr → Bool
  | .ListComp _ _ _ _ => true
  | .SetComp _ _ _ _ => true
  | .DictComp _ _ _ _ _ => true
  | _ => false
theorem swN_ok {env : Env} {v : Expr} {l : Nat} (h : isComp v = false) : swapsWith v none l env = pure false := by cases v <;> first | rfl | cases h
end MP
end

section
set_option Elab.async false
set_option linter.all false
set_option maxRecDepth 100000
set_option maxHeartbeats 8000000
namespace MP
open PySem PySem.Spec L2 PyProof.Rows
section
variable (cn : List Str) (fds : List FD)
/-- y = [..], stored while it stands on the stack -/
def chkLs (Γ : Gam) (t : T) (e : E) (tg v : Expr) : Bool := match t, tg, v with
  | .nm i, .Name y _, .ListComp el [⟨tt, iter, fs, a⟩] scope _ => decide (Γ.N[i]? = some y) && isLoc Γ.sc y && (match e with
    | .lc _ _ _ _ _ => chkE cn fds Γ e v
    | .al (.lc el tg it ifs own) => chkE cn fds Γ (.lc el tg it ifs own) v
    | _ => false)
  | _, _, _ => false
def chkPar (Γ : Gam) (t : T) (e : E) (tg v : Expr) (ns : List Str) : Bool := match t, e, tg, v with
  | .tp (.cons (.nm i) (.cons (.nm j) .nil)), .tup es, .Tuple [.Name x _, .Name y _] _ _, .Tuple [a, b] _ _ => decide (Γ.N[i]? = some x) && decide (Γ.N[j]? = some y) && decide (i ≠ j) && isLoc Γ.sc x && isLoc Γ.sc y && chkEs cn fds Γ es [a, b] && noStars [a, b] && decide (ns = [x, y])
  | .tp (.cons (.nm i) (.cons (.nm j) (.cons (.nm l) .nil))), .tup es, .Tuple [.Name x _, .Name y _, .Name z _] _ _, .Tuple [a, b, c] _ _ => decide (Γ.N[i]? = some x) && decide (Γ.N[j]? = some y) && decide (Γ.N[l]? = some z) && decide (i ≠ j) && decide (i ≠ l) && decide (j ≠ l) && isLoc Γ.sc x && isLoc Γ.sc y && isLoc Γ.sc z && chkEs cn fds Γ es [a, b, c] && noStars [a, b, c] && decide (ns = [x, y, z])
  | _, _, _, _ => false
def chkAsg (Γ : Gam) (t : T) (e : E) (tg v : Expr) : Bool := match swA Γ.sc tg v with
  | none => false
  | some true => chkLs cn fds Γ t e tg v
  | some false => match swB Γ.sc tg v with
    | none => false
    | some none => chkE cn fds Γ e v && chkT cn fds Γ t tg && !isStar tg
    | some (some ns) => chkPar cn fds Γ t e tg v ns
mutual
def chkS (Γ : Gam) : S → Stmt → Bool
  | .asg t e, st => match st with
    | .Assign [tg] v _ => chkAsg cn fds Γ t e tg v
    | _ => false
  | .exp e, st => match st with
    | .Expr v _ => chkE cn fds Γ e v && !isComp v
    | _ => false
  | .ret e, st => match st with
    | .Return (some v) _ => chkE cn fds Γ e v
    | .Return none _ => match e with
      | .c .non => true
      | _ => false
    | _ => false
  | .ite t a b, st => match st with
    | .If c x y _ => chkE cn fds Γ t c && chkSs Γ a x && chkSs Γ b y
    | _ => false
  | .for t it body, st => match st with
    | .For tg iter b [] _ => chkT cn fds Γ t tg && chkI cn fds Γ it tg iter && chkSs Γ body b && !isSet iter
    | _ => false
  | .while t body, st => match st with
    | .While c b [] _ => chkE cn fds Γ t c && chkSs Γ body b
    | _ => false
  | .pass, st => match st with
    | .Pass _ => true
    | _ => false
  | .raise, _ => true
def chkSs (Γ : Gam) : Ss → List Stmt → Bool
  | .nil, [] => true
  | .cons s ss, x :: l => chkS Γ s x && chkSs Γ ss l
  | _, _ => false
end
end
section
variable {cs : List D} {cn : List Str} {fds : List FD} {k : Nat} {Γ : Gam} {X : Cx} {pos : Pos}
theorem s_Par (G : GoodX cs cn fds k Γ X) (hk : Γ.sc.kind = .function) {t : T} {e : E} {tg v : Expr} {ns : List Str} (h1 : swA Γ.sc tg v = some false) (h2 : swB Γ.sc tg v = some (some ns)) (h : chkPar cn fds Γ t e tg v ns = true) : PS X (.Assign [tg] v pos) (tS X.K (kAsg (dT (runF cs fds k) cs t) (dE (runF cs fds k) cs e))) := by
  unfold chkPar at h
  split at h
  · simp only [Bool.and_eq_true, decide_eq_true_eq] at h
    obtain ⟨⟨⟨⟨⟨⟨⟨a1, a2⟩, a3⟩, a4⟩, a5⟩, a6⟩, a7⟩, rfl⟩ := h
    exact PS_weak (ps_par G.calm (by rw [G.N]; exact G.nd) (by rw [G.N]; exact a1) (by rw [G.N]; exact a2) a3 (isloc_of G a4) (isloc_of G a5) (sEs _ G a6 a7) (swB_ok G.sc hk h2) (swA_ok G.sc hk h1)) par_weak
  · simp only [Bool.and_eq_true, decide_eq_true_eq] at h
    obtain ⟨⟨⟨⟨⟨⟨⟨⟨⟨⟨⟨a1, a2⟩, a3⟩, a4⟩, a5⟩, a6⟩, a7⟩, a8⟩, a9⟩, b1⟩, b2⟩, rfl⟩ := h
    exact PS_weak (ps_par3 G.calm (by rw [G.N]; exact G.nd) (by rw [G.N]; exact a1) (by rw [G.N]; exact a2) (by rw [G.N]; exact a3) a4 a5 a6 (isloc_of G a7) (isloc_of G a8) (isloc_of G a9) (sEs _ G b1 b2) (swB_ok G.sc hk h2) (swA_ok G.sc hk h1)) par3_weak
  · cases h
theorem s_Lc (G : GoodX cs cn fds k Γ X) (hk : Γ.sc.kind = .function) {i : Nat} {elt : E} {tg : T} {it : I} {ifs : Es} {own : List Nat} {y : Str} {py : Pos} {v : Expr} {dl : Den} (hdl : dl = dE (runF cs fds k) cs (.lc elt tg it ifs own) ∨ dl = kAl (dE (runF cs fds k) cs (.lc elt tg it ifs own))) (h1 : swA Γ.sc (.Name y py) v = some true) (hy : Γ.N[i]? = some y) (hl : isLoc Γ.sc y = true) (h : chkE cn fds Γ (.lc elt tg it ifs own) v = true) :
    PS X (.Assign [.Name y py] v pos) (tS X.K (kAsg (kNm i) dl)) := by
  unfold chkE at h
  split at h
  case h_2 => cases h
  rename_i el t iter fs a scope pos'
  simp only [Bool.and_eq_true, decide_eq_true_eq] at h
  obtain ⟨⟨⟨⟨⟨⟨⟨rfl, h2⟩, h3⟩, h4⟩, h5⟩, h6⟩, h7⟩, h8⟩ := h
  have ok := blk_of h2
  rw [← G.N, ← G.sc] at ok
  have sn := ownP_snd (N := X.N) own
  refine ps_SetLc (X := X) (vs := slT tg) (scope := scope) (own := ownP X.N own) (de := dE (runF cs fds k) cs elt) (g := dT (runF cs fds k) cs tg) (it := dI (runF cs fds k) cs it) (di := dIf (runF cs fds k) cs ifs) ?_ (fun j hj => by
      rw [sn]
      exact of_decide_eq_true (List.all_eq_true.mp h7 j hj)) G.calm (by rw [G.N]; exact G.nd) (by rw [G.N]; exact hy) (isloc_of G hl) (swA_ok (l := pos.line) G.sc hk h1) (sI it G h5) (by rw [G.N] at ok ⊢; exact ok)
    (fun s H C cl fp => sT tg (G.blk scope s H C cl fp) (fun j hj => hj) h4) (fun s H C cl fp => sIf ifs (G.blk scope s H C cl fp) h6) (fun s H C cl fp => (sE elt (G.blk scope s H C cl fp) h3).1) (set_plain (by simpa using h8))
  rw [sn]
  exact hdl
theorem s_Asg (G : GoodX cs cn fds k Γ X) (hk : Γ.sc.kind = .function) {t : T} {e : E} {tg v : Expr} (h : chkAsg cn fds Γ t e tg v = true) : PS X (.Assign [tg] v pos) (tS X.K (kAsg (dT (runF cs fds k) cs t) (dE (runF cs fds k) cs e))) := by
  unfold chkAsg at h
  split at h
  · cases h
  · rename_i h1
    unfold chkLs at h
    split at h
    case h_2 => cases h
    simp only [Bool.and_eq_true, decide_eq_true_eq] at h
    obtain ⟨⟨a1, a2⟩, a3⟩ := h
    split at a3
    · exact s_Lc G hk (.inl rfl) h1 a1 a2 a3
    · exact s_Lc G hk (.inr rfl) h1 a1 a2 a3
    · cases a3
  · rename_i h1
    split at h
    · cases h
    · rename_i h2
      simp only [Bool.and_eq_true] at h
      exact ps_Asg (sE e G h.1.1).1 (sT t G (fun j hj => hj) h.1.2) (swA_ok G.sc hk h1) (swB_ok G.sc hk h2) (ns1 h.2)
    · rename_i ns h2
      exact s_Par G hk h1 h2 h
mutual
theorem sS (G : GoodX cs cn fds k Γ X) (hk : Γ.sc.kind = .function) (hp : PassesOwn (model X.prog X.w) X.A X.env X.xe) : ∀ (s : S) {st : Stmt}, chkS cn fds Γ s st = true → PS X st (tS X.K (dS (runF cs fds k) cs s))
  | .asg t e, st, h => by
    unfold chkS at h
    split at h
    case h_2 => cases h
    exact s_Asg G hk h
  | .exp e, st, h => by
    unfold chkS at h
    split at h
    case h_2 => cases h
    rw [Bool.and_eq_true] at h
    exact ps_Exp (sE e G h.1).1 (swN_ok (by simpa using h.2))
  | .ret e, st, h => by
    unfold chkS at h
    split at h
    · exact ps_Ret (sE e G h).1
    · split at h
      · exact ps_RetN
      · cases h
    · cases h
  | .ite t a b, st, h => by
    unfold chkS at h
    split at h
    case h_2 => cases h
    simp only [Bool.and_eq_true] at h
    exact ps_Ite (sE t G h.1.1).2 (sSs G hk hp a h.1.2) (sSs G hk hp b h.2)
  | .for t it body, st, h => by
    unfold chkS at h
    split at h
    case h_2 => cases h
    simp only [Bool.and_eq_true] at h
    exact ps_For hp G.calm (sI it G h.1.1.2) (sT t G (fun j hj => hj) h.1.1.1) (sSs G hk hp body h.1.2) (set_plain (by simpa using h.2))
  | .while t body, st, h => by
    unfold chkS at h
    split at h
    case h_2 => cases h
    simp only [Bool.and_eq_true] at h
    exact ps_While hp (sE t G h.1).2 (sSs G hk hp body h.2)
  | .pass, st, h => by
    unfold chkS at h
    split at h
    · exact ps_Pass
    · cases h
  | .raise, st, h => ps_Raise
theorem sSs (G : GoodX cs cn fds k Γ X) (hk : Γ.sc.kind = .function) (hp : PassesOwn (model X.prog X.w) X.A X.env X.xe) : ∀ (ss : Ss) {l : List Stmt}, chkSs cn fds Γ ss l = true → PSs X l (tS X.K (dSs (runF cs fds k) cs ss))
  | .nil, [], h => pss_Nil
  | .cons s ss, x :: l, h => by
    unfold chkSs at h
    rw [Bool.and_eq_true] at h
    exact pss_Cons (sS G hk hp s h.1) (sSs G hk hp ss h.2)
  | .nil, _ :: _, h => by unfold chkSs at h; cases h
  | .cons _ _, [], h => by unfold chkSs at h; cases h
end
end
end MP
end

section
set_option Elab.async false
set_option linter.all false
set_option maxRecDepth 100000
set_option maxHeartbeats 8000000
namespace MP
open PySem PySem.Spec L2 PyProof.Rows
/-! ### a call's end -/
section
variable {K : Kf} {F F' H H' : Hp} {β β' γ : List Addr} {h h' : Hh}
theorem RT.sub {a : Addr} {vs : List V} (s : ∀ b, b ∈ β → b ∈ β') (r : RT K F β' a vs) : RT K F β a vs := by
  rcases r with ⟨n, r⟩ | r
  · exact .inl ⟨fun m => n (s a m), r⟩
  · exact .inr r
theorem RL.sub {a : Addr} {vs : List V} (s : ∀ b, b ∈ β → b ∈ β') (r : RL K F β' a vs) : RL K F β a vs := ⟨fun m => r.1 (s a m), r.2⟩
mutual
theorem VR.low_ok {n : Nat} (hn : n ≤ β.length) : ∀ (d : D) (v : V), VR K F (β ++ γ) d v → lowD n d = true → VR K F β d v
  | .non, _, h, _ => h
  | .bl _, _, h, _ => h
  | .int _, _, h, _ => h
  | .str _, _, h, _ => h
  | .rp _, _, h, _ => h
  | .tup ds, _, ⟨a, vs, e1, r, q⟩, l => by
    unfold lowD at l
    exact ⟨a, vs, e1, r.sub fun b m => List.mem_append_left _ m, VRs.low_ok hn ds vs q l⟩
  | .lst ds, _, ⟨a, vs, e1, r, q⟩, l => by
    unfold lowD at l
    exact ⟨a, vs, e1, r.sub fun b m => List.mem_append_left _ m, VRs.low_ok hn ds vs q l⟩
  | .ref m, _, ⟨a, e1, e2⟩, l => by
    unfold lowD at l
    have l := of_decide_eq_true l
    exact ⟨a, by rw [List.getElem?_append_left (by omega)] at e1; exact e1, e2⟩
theorem VRs.low_ok {n : Nat} (hn : n ≤ β.length) : ∀ (ds : List D) (vs : List V), VRs K F (β ++ γ) ds vs → lowAll n ds = true → VRs K F β ds vs
  | [], _, h, _ => h
  | d :: ds, _, ⟨v, r, e1, h1, h2⟩, l => by
    unfold lowAll at l
    rw [Bool.and_eq_true] at l
    exact ⟨v, r, e1, VR.low_ok hn d v h1 l.1, VRs.low_ok hn ds r h2 l.2⟩
end
theorem lowD_mono {n m : Nat} (hnm : n ≤ m) : ∀ (d : D), lowD n d = true → lowD m d = true := by
  intro d
  exact D.rec (motive_1 := fun d => lowD n d = true → lowD m d = true) (motive_2 := fun ds => lowAll n ds = true → lowAll m ds = true)
    (fun _ => rfl) (fun _ _ => rfl) (fun _ _ => rfl) (fun _ _ => rfl) (fun _ _ => rfl)
    (fun ds ih h => by unfold lowD at h ⊢; exact ih h) (fun ds ih h => by unfold lowD at h ⊢; exact ih h)
    (fun k h => by unfold lowD at h ⊢; have := of_decide_eq_true h; exact decide_eq_true (by omega))
    (fun _ => rfl) (fun d ds ih1 ih2 h => by unfold lowAll at h ⊢; rw [Bool.and_eq_true] at h ⊢; exact ⟨ih1 h.1, ih2 h.2⟩) d
theorem good_take (gd : Good K F (β ++ γ) h) : Good K F β (h.take β.length) := by
  have hl : β.length ≤ h.length := by rw [← gd.len, List.length_append]; omega
  refine ⟨(List.nodup_append.mp gd.nd).1, by rw [List.length_take]; omega, fun n a o e1 e2 => ?_⟩
  have hn : n < β.length := (List.getElem?_eq_some_iff.mp e1).1
  rw [List.getElem?_take_of_lt hn] at e2
  match o, gd.ob n a o (by rw [List.getElem?_append_left hn]; exact e1) e2 with
  | .lst ds, ⟨vs, f, w, l⟩ => exact ⟨vs, f, VRs.low_ok (Nat.le_of_lt hn) ds vs w l, l⟩
theorem frz_ok (gd : Good K F (β ++ γ) h) : ∀ (k : Nat) (d d' : D) (v : V), VR K F (β ++ γ) d v → frz h β.length k d = some d' → VR K F β d' v := by
  intro k
  induction k with
  | zero => intro d d' v _ e; exact nomatch e
  | succ k ih =>
    have all : ∀ (ds es : List D) (vs : List V), VRs K F (β ++ γ) ds vs → allO (ds.map (frz h β.length k)) = some es → VRs K F β es vs := fun ds => by
      induction ds with
      | nil => intro es vs w e; cases e; exact w
      | cons d ds ihs =>
        rintro es _ ⟨v, r, rfl, w1, w2⟩ e
        obtain ⟨p, qs, rfl, e1, e2⟩ := allO_cons (show allO (frz h β.length k d :: ds.map (frz h β.length k)) = some es from e)
        exact ⟨v, r, rfl, ih d p v w1 e1, ihs qs r w2 e2⟩
    intro d d' v w e
    cases d with
    | non => cases (show some D.non = some d' from e); exact w
    | bl b => cases (show some (D.bl b) = some d' from e); exact w
    | int b => cases (show some (D.int b) = some d' from e); exact w
    | str b => cases (show some (D.str b) = some d' from e); exact w
    | rp b => cases (show some (D.rp b) = some d' from e); exact w
    | tup ds =>
      have e : (match allO (ds.map (frz h β.length k)) with
        | some l => some (D.tup l)
        | none => none) = some d' := e
      split at e
      · rename_i l hl
        cases e
        obtain ⟨a, vs, rfl, r, w⟩ := w
        exact ⟨a, vs, rfl, r.sub fun b m => List.mem_append_left _ m, all ds l vs w hl⟩
      · cases e
    | lst ds =>
      have e : (match allO (ds.map (frz h β.length k)) with
        | some l => some (D.lst l)
        | none => none) = some d' := e
      split at e
      · rename_i l hl
        cases e
        obtain ⟨a, vs, rfl, r, w⟩ := w
        exact ⟨a, vs, rfl, r.sub fun b m => List.mem_append_left _ m, all ds l vs w hl⟩
      · cases e
    | ref m =>
      have e : (if m < β.length then some (D.ref m) else match h[m]? with
        | some (.lst ds) => match allO (ds.map (frz h β.length k)) with
          | some l => some (.lst l)
          | none => none
        | none => none) = some d' := e
      obtain ⟨a, ea, rfl⟩ := w
      split at e
      · rename_i hm
        cases e
        exact ⟨a, by rw [List.getElem?_append_left hm] at ea; exact ea, rfl⟩
      · rename_i hm
        split at e
        · rename_i ds hd
          split at e
          · rename_i l hl
            cases e
            obtain ⟨vs, f, w, _⟩ := gd.at_ ea hd
            refine ⟨a, vs, rfl, ⟨fun z => ?_, .inl f⟩, all ds l vs w hl⟩
            rw [List.getElem?_append_right (by omega)] at ea
            exact (List.nodup_append.mp gd.nd).2.2 a z a (List.mem_of_getElem? ea) rfl
          · cases e
        · cases e
theorem fin_post {fz : Bool} {r : R} {Q : VK} {v : V} (gd0 : Good K F β h) (post : PostE K F β H (fin h.length fz r h') Q) (sm : Same F' H') (st : Step F β H F' β' H') (gd : Good K F' β' h') (rr : RR K F' β' H H' r v) : Q v H' := by
  obtain ⟨γ, rfl, fr⟩ := st.gm
  have hl : h.length = β.length := gd0.len.symm
  rw [hl] at post
  have st' : Step F β H F' β H' := ⟨⟨[], by simp, fun _ z => by simp at z⟩, st.kp, st.hid⟩
  have gt := good_take gd
  unfold fin at post
  cases fz with
  | true =>
    rw [if_pos rfl] at post
    cases hf : frzR h' β.length r with
    | none => rw [hf] at post; exact post.elim
    | some r' =>
      rw [hf] at post
      simp only at post
      split at post
      · refine post v F' β H' sm st' gt ?_
        cases r with
        | d x =>
          have hf : (frz h' β.length 40 x).map R.d = some r' := hf
          cases hx : frz h' β.length 40 x with
          | none => rw [hx] at hf; cases hf
          | some y => rw [hx] at hf; cases hf; exact frz_ok gd 40 x y v rr hx
        | fl ds =>
          have hf : (allO (ds.map (frz h' β.length 40))).map R.fl = some r' := hf
          cases hx : allO (ds.map (frz h' β.length 40)) with
          | none => rw [hx] at hf; cases hf
          | some es =>
            rw [hx] at hf
            cases hf
            obtain ⟨a, vs, rfl, n0, f, q, w⟩ := rr
            refine ⟨a, vs, rfl, n0, f, q, ?_⟩
            have all : ∀ (ds es : List D) (vs : List V), VRs K F' (β ++ γ) ds vs → allO (ds.map (frz h' β.length 40)) = some es → VRs K F' β es vs := fun ds => by
              induction ds with
              | nil => intro es vs w e; cases e; exact w
              | cons d ds ihs =>
                rintro es _ ⟨v, r, rfl, w1, w2⟩ e
                obtain ⟨p, qs, rfl, e1, e2⟩ := allO_cons (show allO (frz h' β.length 40 d :: ds.map (frz h' β.length 40)) = some es from e)
                exact ⟨v, r, rfl, frz_ok gd 40 d p v w1 e1, ihs qs r w2 e2⟩
            exact all ds es vs w hx
      · exact post.elim
  | false =>
    rw [if_neg (by decide)] at post
    simp only at post
    split at post
    · rename_i hlow
      refine post v F' β H' sm st' gt ?_
      cases r with
      | d x => exact VR.low_ok (Nat.le_refl _) x v rr hlow
      | fl ds =>
        obtain ⟨a, vs, rfl, n0, f, q, w⟩ := rr
        exact ⟨a, vs, rfl, n0, f, q, VRs.low_ok (Nat.le_refl _) ds vs w hlow⟩
    · rw [if_neg (by decide)] at post
      exact post v F' (β ++ γ) H' sm st gd rr
theorem sim_start {N : List Str} {ds : List D} {vs : List V} (w : VRs K F β ds vs) : SimE K F β (ds.map some ++ List.replicate (N.length - ds.length) none) (L2.start N vs) := by
  unfold L2.start
  refine ⟨by simp [w.len], fun i d e => ?_⟩
  by_cases hi : i < ds.length
  · rw [List.getElem?_append_left (by simpa using hi), List.getElem?_map] at e
    cases hd : ds[i]? with
    | none => rw [hd] at e; cases e
    | some x =>
      rw [hd] at e
      cases e
      obtain ⟨v, hv, rv⟩ := w.get hd
      refine ⟨v, ?_, rv⟩
      rw [List.getElem?_append_left (by rw [List.length_map, w.len]; exact hi), List.getElem?_map, hv]
      rfl
  · rw [List.getElem?_append_right (by simpa using hi), List.getElem?_replicate] at e
    split at e <;> cases e
end
/-- THE RULE of a def -/
theorem fn_m {CX : CXT} {P : Program} {w : World} {K : Kf} {mg : Str → Option Value} {base : Heap} {k : Nat} {f : Addr} {name qual : Str} {params : Arguments} {body : List Stmt} {scope : Scope} {dV kV doc pm cdv ct oc : Value} {an od : Option Addr} {osl : Array (Option Value)} {N ps : List Str} {sp : Sp}
    (lk : K.lookup f = some ⟨oc, od, .func (PySem.W.fnOf name qual params body scope dV kV doc pm an cdv ct), osl⟩) (hcd : PySem.W.codeIn K cdv qual = true) (S : FnScope N ps scope) (len : ∀ vs H Q E, sp vs H Q E → vs.length = ps.length)
    (hbody : ∀ (A : Around) (outer : List Env) (s : Shared) (H : Hp) (vs : List V) (Q : VK) (E : XK), Room k (A.deeper (envOfC qual scope s.heap.objs.size f cdv)) → (A.deeper (envOfC qual scope s.heap.objs.size f cdv)).guards = some [] → sp vs H Q E →
      ∃ t, PSs (cxOf CX P w K mg base N qual scope f cdv A outer s H E) body t ∧ t { nx := fun _ H' => Q .non H', rt := Q } (start N vs) H) :
    FnM P w K mg base CX (k + 1) f (PySem.W.fnOf name qual params body scope dV kV doc pm an cdv ct) ps sp := by
  refine ⟨len, fun A outer s H args us vs Q E room hg env0 hb rel hs => ?_⟩
  have hlen := len _ _ _ _ hs
  have kin : K.In s.heap := env0.mod.kin.keeps fun b o z => (env0.bs b o z).1
  have lim : s.heap.NoLimit := env0.mod.nolimit.keeps fun b o z => (env0.bs b o z).1
  have kinds : ∀ y ∈ ps.zip us, scope.names.lookup y.1 = some .local ∨ (scope.names.lookup y.1 = some .cell ∧ ((cellsFrom (s.heap.objs.size + 1) scope.names []).lookup y.1).isSome = true) := fun y hy =>
    (S.par y.1 (List.of_mem_zip hy).1).elim .inl fun z => .inr ⟨z, PySem.W.cellsFrom_some _ _ _ (.inl z)⟩
  refine codeAny_call_function room.depth (kin _ _ lk) rfl S.co S.gen rfl (PySem.W.codeRec_of kin hcd) (hb _ _ _ _ (wpAny_newFunctionEnv_cells S.kind kinds fun env eq s1 ic => ?_))
  subst eq
  refine ⟨lim.keeps ic.toInCall.keep, codeAny_func ?_⟩
  obtain ⟨t, ht, pre⟩ := hbody A outer s H vs Q E (room.deeper _) hg hs
  have I := inv_start (CX := CX) (E := E) S room.hd env0 hlen rel ic
  have ending : ∀ {σ' : L2.St} {H' : Hp} {v : V} {u : Value} {s' : Shared}, L2.Inv (cxOf CX P w K mg base N qual scope f cdv A outer s H E) [] σ' H' s' → RelV v u → Q v H' → CE outer P w H s Q u s' := fun J rv q => ⟨_, _, J.os, J.bare, J.base, J.hok, rv, q⟩
  refine wpAny_mono (ht.run [] s1 (start N vs) H _ I pre) (fun fl s' q => ?_) fun _ _ z => z
  match fl, q with
  | .ret u, ⟨v, σ', H', J, rv, q⟩ => exact ending J rv q
  | .next, ⟨σ', H', J, q⟩ => exact ending (v := V.non) (u := Value.none) J rfl q
  | .brk, ⟨_, _, _, q⟩ => exact q.elim
  | .cont, ⟨_, _, _, q⟩ => exact q.elim
end MP
end

section
set_option Elab.async false
set_option linter.all false
set_option maxRecDepth 100000
set_option maxHeartbeats 8000000
namespace MP
open PySem PySem.Spec L2 PyProof.Rows
/-! ### a program -/
def simB (a : Arguments) (ps : List Str) : Bool := a.posonlyargs.isEmpty && decide (a.args.map (·.arg) = ps) && a.kwonlyargs.isEmpty && a.vararg.isNone && a.kwarg.isNone
def scB (N P : List Str) (sc : Scope) : Bool := decide (sc.kind = .function) && !sc.isCoroutine && !sc.isGenerator && decide N.Nodup && (decide (N.take P.length = P) &&
  P.all (fun x => decide (sc.names.lookup x = some .local) || decide (sc.names.lookup x = some .cell)) && sc.names.all fun y => !decide (y.2 = .free))
def chkF (cn : List Str) (fds : List FD) (fd : FD) (st : Stmt) : Bool := simB (defArgs st) fd.ps && scB fd.N fd.ps (defScope st) && chkSs cn fds ⟨fd.N, defScope st, none⟩ fd.body (defBody st)
theorem sc_of {N P : List Str} {sc : Scope} (h : scB N P sc = true) : FnScope N P sc := by
  unfold scB at h
  simp only [Bool.and_eq_true, decide_eq_true_eq, Bool.not_eq_true', List.all_eq_true, Bool.or_eq_true, decide_eq_false_iff_not] at h
  obtain ⟨⟨⟨⟨h1, h2⟩, h3⟩, h4⟩, ⟨h5, h6⟩, h7⟩ := h
  exact ⟨h1, h2, h3, h4, h5, h6, h7⟩
theorem sim_of {x qual : Str} {a : Arguments} {ps : List Str} {body : List Stmt} {sc : Scope} {kV doc pm cdv ct : Value} {an : Option Addr} (h : simB a ps = true) : Simple (PySem.W.fnOf x qual a body sc .none kV doc pm an cdv ct) ps := by
  unfold simB at h
  simp only [Bool.and_eq_true, decide_eq_true_eq] at h
  obtain ⟨⟨⟨⟨h1, h2⟩, h3⟩, h4⟩, h5⟩ := h
  exact ⟨List.isEmpty_iff.mp h1, h2, List.isEmpty_iff.mp h3, by simpa using h4, by simpa using h5, rfl⟩
structure HasM (K : Kf) (mg : Str → Option Value) (nm : Str) (st : Stmt) : Prop where
  ex : ∃ (f : Addr) (fd : FuncData), Fun K nm nm st f fd ∧ mg nm = some (.ref f)
structure ProgOk (K : Kf) (mg : Str → Option Value) (cs : List D) (cn : List Str) (fds : List FD) (sts : List Stmt) : Prop where
  chk : (fds.zip sts).all (fun p => chkF cn fds p.1 p.2) = true
  len : fds.length = sts.length
  has : ∀ p ∈ fds.zip sts, HasM K mg p.1.name p.2
  blt : ∀ x, x ∈ bltNames → mg x = none
  cst : ∀ (j : Nat) (x : Str), cn[j]? = some x → ∃ u v d, cs[j]? = some d ∧ mg x = some u ∧ RelV v u ∧ VR K (fun _ => none) [] d v
theorem sp_len {K : Kf} {cl : Cl} {i n : Nat} : ∀ vs H Q E, spR K cl i n vs H Q E → vs.length = n := fun _ _ _ _ h => h.1
theorem prog_m {P : Program} {w : World} {K : Kf} {mg : Str → Option Value} {base : Heap} {cs : List D} {cn : List Str} {fds : List FD} {sts : List Stmt} (O : ProgOk K mg cs cn fds sts) :
    ∀ (k : Nat) (i : Nat) (fd : FD) (st : Stmt) (f : Addr) (fdt : FuncData), fds[i]? = some fd → sts[i]? = some st → Fun K fd.name fd.name st f fdt → FnM P w K mg base noX k f fdt fd.ps (spR K (runF cs fds k) i fd.ps.length) := by
  intro k
  induction k with
  | zero =>
    intro i fd st f fdt hi hs F
    exact ⟨sp_len, fun A outer s H args us vs Q E _ _ _ _ _ h => by obtain ⟨_, _, _, _, _, _, _, _, post⟩ := h; exact post.elim⟩
  | succ k ih =>
    intro i fd st f fdt hi hs F
    obtain ⟨oc, od, kV, doc, pm, an, cdv, ct, osl, rfl, lk, hcd⟩ := F.ex
    have hm : (fd, st) ∈ fds.zip sts := List.mem_of_getElem? (i := i) (by rw [List.getElem?_zip_eq_some]; exact ⟨hi, hs⟩)
    have hc := List.all_eq_true.mp O.chk _ hm
    unfold chkF at hc
    rw [Bool.and_eq_true, Bool.and_eq_true] at hc
    obtain ⟨⟨c1, c2⟩, c3⟩ := hc
    have S := sc_of c2
    refine fn_m lk hcd S sp_len fun A outer s H vs Q E room hg ⟨hlen, F0, β, h, ds, sm, gd, w0, post⟩ => ?_
    have G : GoodX cs cn fds k ⟨fd.N, defScope st, none⟩ (cxOf noX P w K mg base fd.N fd.name (defScope st) f cdv A outer s H E) := {
      N := rfl
      sc := rfl
      cel := fun _ _ => rfl
      nd := S.nd
      calm := rfl
      gd := hg
      room := room
      blt := O.blt
      cst := O.cst
      fns := fun j fd' hj => by
        have hj2 : j < sts.length := by rw [← O.len]; exact (List.getElem?_eq_some_iff.mp hj).1
        have hst : sts[j]? = some sts[j] := List.getElem?_eq_getElem hj2
        have hm2 : (fd', sts[j]) ∈ fds.zip sts := List.mem_of_getElem? (i := j) (by rw [List.getElem?_zip_eq_some]; exact ⟨hj, hst⟩)
        obtain ⟨f', fdt', F', m'⟩ := (O.has _ hm2).ex
        have c' := List.all_eq_true.mp O.chk _ hm2
        unfold chkF at c'
        rw [Bool.and_eq_true, Bool.and_eq_true] at c'
        refine ⟨f', fdt', m', F'.kp, ?_, ih j fd' sts[j] f' fdt' hj hst F'⟩
        obtain ⟨_, _, _, _, _, _, _, _, _, rfl, _, _⟩ := F'.ex
        exact sim_of c'.1.1 }
    refine ⟨_, sSs G S.kind PassesOwn.leaving fd.body c3, F0, β, h, ds.map some ++ List.replicate (fd.N.length - ds.length) none, sm, gd, sim_start w0, ?_⟩
    have post : PostE K F0 β H (match fds[i]? with
      | none => .no
      | some fd => if ds.length = fd.ps.length ∧ fd.ps.length ≤ fd.N.length then
          match dSs (runF cs fds k) cs fd.body (ds.map some ++ List.replicate (fd.N.length - ds.length) none) h with
          | .ok (.nx _) h' => fin h.length fd.fz (.d .non) h'
          | .ok (.rt r) h' => fin h.length fd.fz r h'
          | .er e h' => .er e h'
          | .no => .no
        else .no) Q := post
    rw [hi] at post
    simp only at post
    split at post
    case isFalse => exact post.elim
    cases hd : dSs (runF cs fds k) cs fd.body (ds.map some ++ List.replicate (fd.N.length - ds.length) none) h with
    | er e h => rw [hd] at post; exact post.elim
    | no => rw [hd] at post; exact post.elim
    | ok fl h' =>
      rw [hd] at post
      cases fl with
      | nx en' => exact fun F' β' H' σ' sm' st' gd' _ => fin_post gd post sm' st' gd' (show RR K F' β' H H' (.d .non) .non from rfl)
      | rt r => exact fun v F' β' H' sm' st' gd' rr => fin_post gd post sm' st' gd' rr
/-! ### constants of the written part -/
def vrK (K : Kf) : Nat → D → Value → Bool
  | 0, _, _ => false
  | n + 1, d, u => match d, u with
    | .non, .none => true
    | .bl b, .bool c => b == c
    | .int i, .int j _ => decide (i = j)
    | .str x, .str y _ => decide (x = y)
    | .tup ds, .ref a => match K.lookup a with
      | some o => (match o.data with
        | .seq its _ => decide (o.cls = .type "tuple") && decide (its.size ≤ 1000) && decide (its.size = ds.length) && (ds.zip its.toList).all fun p => vrK K n p.1 p.2
        | _ => false)
      | none => false
    | _, _ => false
theorem vrK_ok {K : Kf} : ∀ (n : Nat) (d : D) (u : Value), vrK K n d u = true → ∃ v, RelV v u ∧ VR K (fun _ => none) [] d v
  | 0, _, _, h => by cases h
  | n + 1, d, u, h => by
    unfold vrK at h
    split at h
    · exact ⟨.non, rfl, rfl⟩
    · rename_i b c
      cases (show b = c by simpa using h)
      exact ⟨.bl b, rfl, rfl⟩
    · rename_i i j t
      cases of_decide_eq_true h
      exact ⟨.int i, ⟨t, rfl⟩, rfl⟩
    · rename_i i j t
      cases of_decide_eq_true h
      exact ⟨.str i, ⟨t, rfl⟩, rfl⟩
    · rename_i ds a
      split at h
      case h_2 => cases h
      rename_i o ho
      split at h
      case h_2 => cases h
      rename_i its k hd
      simp only [Bool.and_eq_true, decide_eq_true_eq] at h
      obtain ⟨⟨⟨h1, h2⟩, h3⟩, h4⟩ := h
      have each : ∀ (ds : List D) (us : List Value), us.length = ds.length → (ds.zip us).all (fun p => vrK K n p.1 p.2) = true → ∃ vs, Vals vs us ∧ VRs K (fun _ => none) [] ds vs := fun ds => by
        induction ds with
        | nil => intro us hl _; cases us with | nil => exact ⟨[], .nil, rfl⟩ | cons _ _ => simp at hl
        | cons d ds ih =>
          intro us hl ha
          cases us with
          | nil => simp at hl
          | cons u us =>
            rw [List.zip_cons_cons, List.all_cons, Bool.and_eq_true] at ha
            obtain ⟨v, r, w⟩ := vrK_ok n d u ha.1
            obtain ⟨vs, rs, ws⟩ := ih us (by simpa using hl) ha.2
            exact ⟨v :: vs, .cons r rs, ⟨v, vs, rfl, w, ws⟩⟩
      obtain ⟨vs, rs, ws⟩ := each ds its.toList (by rw [Array.length_toList]; exact h3) h4
      exact ⟨.ref a, rfl, a, vs, rfl, .inr (.inr ⟨o, its, k, ho, h1, hd, Nat.le_trans h2 (by decide), rs⟩), ws⟩
    · cases h
end MP
end

section
set_option Elab.async false
set_option linter.all false
set_option maxRecDepth 100000
set_option maxHeartbeats 8000000
namespace MP
open PySem PySem.Spec L2 PyProof.Rows
/-! ### the written part without the script -/
def cutK (K : Kf) (a : Addr) : Kf := K.filter fun p => p.1 != a
theorem cutK_self (a : Addr) : ∀ K : Kf, (cutK K a).lookup a = none
  | [] => rfl
  | (b, o) :: K => by
    unfold cutK
    rw [List.filter_cons]
    split
    · rename_i h
      have h : b ≠ a := by simpa using h
      rw [List.lookup_cons, show (a == b) = false from beq_eq_false_iff_ne.mpr (Ne.symm h)]
      exact cutK_self a K
    · exact cutK_self a K
theorem cutK_ne {a b : Addr} (h : b ≠ a) : ∀ K : Kf, (cutK K a).lookup b = K.lookup b
  | [] => rfl
  | (c, o) :: K => by
    unfold cutK
    rw [List.filter_cons]
    split
    · rw [List.lookup_cons, List.lookup_cons]
      split
      · rfl
      · exact cutK_ne h K
    · rename_i hc
      have hc : c = a := by simpa using hc
      rw [List.lookup_cons, show (b == c) = false from beq_eq_false_iff_ne.mpr (by rw [hc]; exact h)]
      exact cutK_ne h K
section
variable {K : Kf} {a : Addr} {mg : Str → Option Value}
/-- what is no list, is kept -/
theorem cut_at {b : Addr} {o : Obj} (na : ∀ u, K.lookup a = some u → u.cls = .type "list" ∧ ∃ its n, u.data = .seq its n) (h : K.lookup b = some o) (hne : o.cls ≠ .type "list" ∨ ∀ its n, o.data ≠ .seq its n) : (cutK K a).lookup b = some o := by
  rw [cutK_ne ?_ K]
  · exact h
  · intro e
    subst e
    obtain ⟨h1, its, n, h2⟩ := na o h
    rcases hne with q | q
    · exact q h1
    · exact q its n h2
theorem cut_code {cd : Value} {q : Str} (na : ∀ u, K.lookup a = some u → u.cls = .type "list" ∧ ∃ its n, u.data = .seq its n) (h : PySem.W.codeIn K cd q = true) : PySem.W.codeIn (cutK K a) cd q = true := by
  unfold PySem.W.codeIn at h ⊢
  split at h
  · rename_i c
    split at h
    · rename_i x1 x2 vs x3 e
      have e' := cut_at na e (.inr fun its n z => by cases z)
      rw [e']
      exact h
    · cases h
  · cases h
theorem cut_has {nm : Str} {st : Stmt} (na : ∀ u, K.lookup a = some u → u.cls = .type "list" ∧ ∃ its n, u.data = .seq its n) (h : HasM K mg nm st) : HasM (cutK K a) mg nm st := by
  obtain ⟨f, fd, F, m⟩ := h.ex
  obtain ⟨oc, od, kV, doc, pm, an, cdv, ct, osl, e, lk, hcd⟩ := F.ex
  have lk' := cut_at na lk (.inr fun its n z => by cases z)
  refine ⟨f, fd, ⟨⟨oc, od, kV, doc, pm, an, cdv, ct, osl, e, lk', cut_code na hcd⟩, ?_⟩, m⟩
  unfold PySem.W.keepIn
  simp only [lk']
mutual
theorem cut_vr {F : Hp} {β : List Addr} (na : ∀ u, K.lookup a = some u → u.cls = .type "list" ∧ ∃ its n, u.data = .seq its n) : ∀ (d : D) (v : V), VR K F β d v → VR (cutK K a) F β d v
  | .non, _, h => h
  | .bl _, _, h => h
  | .int _, _, h => h
  | .str _, _, h => h
  | .rp _, _, h => h
  | .tup ds, _, ⟨b, vs, e1, r, q⟩ => by
    refine ⟨b, vs, e1, ?_, cut_vrs na ds vs q⟩
    rcases r with r | r | ⟨o, its, n, lk, c, d, z, w⟩
    · exact .inl r
    · exact .inr (.inl r)
    · exact .inr (.inr ⟨o, its, n, cut_at na lk (.inl (by rw [c]; decide)), c, d, z, w⟩)
  | .lst ds, _, ⟨b, vs, e1, r, q⟩ => ⟨b, vs, e1, r, cut_vrs na ds vs q⟩
  | .ref _, _, h => h
theorem cut_vrs {F : Hp} {β : List Addr} (na : ∀ u, K.lookup a = some u → u.cls = .type "list" ∧ ∃ its n, u.data = .seq its n) : ∀ (ds : List D) (vs : List V), VRs K F β ds vs → VRs (cutK K a) F β ds vs
  | [], _, h => h
  | d :: ds, _, ⟨v, r, e1, h1, h2⟩ => ⟨v, r, e1, cut_vr na d v h1, cut_vrs na ds r h2⟩
end
theorem cut_prog {cs : List D} {cn : List Str} {fds : List FD} {sts : List Stmt} (na : ∀ u, K.lookup a = some u → u.cls = .type "list" ∧ ∃ its n, u.data = .seq its n) (O : ProgOk K mg cs cn fds sts) : ProgOk (cutK K a) mg cs cn fds sts :=
  ⟨O.chk, O.len, fun p hp => cut_has na (O.has p hp), O.blt, fun j x e => let ⟨u, v, d, h1, h2, h3, h4⟩ := O.cst j x e; ⟨u, v, d, h1, h2, h3, cut_vr na d v h4⟩⟩
end
theorem rel_ints : ∀ {vs : List Value} {ns : List Int}, IntsAre vs ns → Vals (ns.map V.int) vs
  | _, _, .nil => .nil
  | _, _, .cons n t h => .cons ⟨t, rfl⟩ (rel_ints h)
/-- THE END: a law whose own run says True -/
theorem law_of {l : PySem.W.OpenLaw} {q : Program} {loose : List Str} {XP : (Str → Option Value) → Heap → Prop} {YP : World → Heap → Prop} {d : DefRec} {Kp : Params → Kf} {cs : List D} {cn : List Str} {fds : List FD} {sts : List Stmt} {i k : Nat} {fd : FD}
    (hn : l.most = some 63) (hdf : d.params.defaults = []) (hr : Room k callerA) (hY : ∀ (w : World) (h : Heap), YP w h → (Kp w.params).In h)
    (O : ∀ (w : World) (mg : Str → Option Value) (h : Heap), (Kp w.params).In h → h.Ns mainGlobals mg → ProgOk (Kp w.params) mg cs cn fds sts)
    (hi : fds[i]? = some fd) (hnm : fd.name = d.name) (hps : fd.ps.length = 1)
    (run : ∀ ns : List Int, ns.length ≤ 63 → ∃ h', runF cs fds k i [.lst (ns.map D.int)] [] = .ok (.d (.bl true)) h') :
    PySem.W.WalkO q loose XP YP l.row.toRowW d [] (fun f vs => PySem.call f vs) := by
  refine Att.attach_call hn hdf fun w s₀ s₁ mg mb fa o pm cd doc a vs ns G Y ho hd hcd hmg hobj hints hlen hg => ?_
  have KX := hY w _ Y
  have na : ∀ u, (Kp w.params).lookup a = some u → u.cls = .type "list" ∧ ∃ its n, u.data = .seq its n := fun u e => by
    have z := KX a u e
    rw [hobj] at z
    cases z
    exact ⟨rfl, _, _, rfl⟩
  have O' := cut_prog na (O w mg _ KX G.T.g)
  generalize hK : cutK (Kp w.params) a = K' at O'
  have KX' : K'.In s₁.heap := fun b u e => by
    rw [← hK] at e
    by_cases hb : b = a
    · subst hb; rw [cutK_self] at e; cases e
    · rw [cutK_ne hb] at e; exact KX b u e
  have nK : K'.lookup a = none := by rw [← hK]; exact cutK_self a _
  -- the law's own def
  have hlt : i < sts.length := by rw [← O'.len]; exact (List.getElem?_eq_some_iff.mp hi).1
  have hst : sts[i]? = some sts[i] := List.getElem?_eq_getElem hlt
  obtain ⟨f, fdt, Fu, hm⟩ := (O'.has (fd, sts[i]) (List.mem_of_getElem? (i := i) (by rw [List.getElem?_zip_eq_some]; exact ⟨hi, hst⟩))).ex
  have ef : f = fa := by
    rw [show (fd, sts[i]).1.name = d.name from hnm, hmg] at hm
    cases hm; rfl
  subst ef
  -- the script is told, for good
  let ob : Obj := { cls := .type "list", data := .seq vs.toArray }
  let H : Hp := fun b => if b = a then some (.frz ob (.lst (ns.map V.int))) else none
  have Ha : H a = some (.frz ob (.lst (ns.map V.int))) := if_pos rfl
  have Hn : ∀ b, b ≠ a → H b = none := fun b hb => if_neg hb
  have rv := rel_ints hints
  have hz : (ns.map V.int).length ≤ sizeLine := by rw [List.length_map]; exact Nat.le_trans hlen (by decide)
  have hok : HOk l.prog w H s₁.heap := fun b u e => by
    by_cases hb : b = a
    · subst hb
      rw [Ha] at e
      cases e
      exact ⟨hobj, hz, vs, _, rv, hobj⟩
    · rw [Hn b hb] at e; cases e
  have notA : ∀ {b : Addr} {u : Obj}, s₁.heap.get? b = some u → (∀ its n, u.data ≠ .seq its n) → H b = none := fun {b u} e nd => Hn b fun z => by
    subst z
    rw [hobj] at e
    cases e
    exact nd _ _ rfl
  have nsB : ∀ {b : Addr} {m : Str → Option Value}, s₁.heap.Ns b m → (hidT s₁.heap H).Ns b m := fun {b m} ⟨u, es, ep, e, dd, r⟩ => ⟨u, es, ep, hidT_get e (notA e fun its n z => by rw [dd] at z; cases z), dd, r⟩
  have inB : K'.In (hidT s₁.heap H) := fun b u e => hidT_get (KX' b u e) (Hn b fun z => by subst z; rw [nK] at e; cases e)
  have md : Mod K' mg (hidT s₁.heap H) := ⟨inB, nsB G.T.g, ⟨mb, nsB G.T.b, G.T.builtins⟩, let ⟨mc, h1, h2⟩ := G.T.nolimit; ⟨mc, nsB h1, h2⟩⟩
  have env0 : Env0 l.prog w K' mg (hidT s₁.heap H) callerA [] s₁ H := ⟨rfl, md, fun b u e => of_hidT e, Nat.le_of_eq (hidT_size _ _), trivial, (fun b hb => absurd (show b ∈ ([] : List Addr) from hb) List.not_mem_nil), hok, .of_eq hg⟩
  have M := prog_m (P := l.prog) (w := w) (base := hidT s₁.heap H) O' k i fd sts[i] f fdt hi hst Fu
  have wi : VRs K' H [] (ns.map D.int) (ns.map V.int) := VRs.of_ints ns
  obtain ⟨h', hrun⟩ := run ns hlen
  have sp : spR K' (runF cs fds k) i fd.ps.length [.ref a] H (fun v _ => v = .bl true) fun _ _ _ => False := by
    refine ⟨hps.symm, H, [], [], [.lst (ns.map D.int)], Same.refl _, ⟨List.nodup_nil, rfl, fun n b o z => by simp at z⟩, ⟨.ref a, [], rfl, ⟨a, ns.map V.int, rfl, ⟨by simp, .inr ⟨ob, Ha⟩⟩, wi⟩, rfl⟩, ?_⟩
    rw [hrun]
    exact fun v F' β' H' _ _ _ rr => rr
  have hc := List.all_eq_true.mp O'.chk (fd, sts[i]) (List.mem_of_getElem? (i := i) (by rw [List.getElem?_zip_eq_some]; exact ⟨hi, hst⟩))
  unfold chkF at hc
  rw [Bool.and_eq_true, Bool.and_eq_true] at hc
  have sim : Simple fdt fd.ps := by
    obtain ⟨_, _, _, _, _, _, _, _, _, rfl, _, _⟩ := Fu.ex
    exact sim_of hc.1.1
  obtain ⟨x, ex⟩ : ∃ x, fd.ps = [x] := by
    match hp : fd.ps, hps with
    | [x], _ => exact ⟨x, rfl⟩
  have bd : BindsTo s₁ fdt ⟨[.ref a], []⟩ (fd.ps.zip [.ref a]) := by
    have z := binds_of (fd := fdt) (ps := fd.ps) (ks := []) (us := [.ref a]) (ws := []) (pm := [0]) sim (by rw [ex]; unfold pmOk; simp) rfl s₁
    exact z
  refine codeAny_mono (M.run callerA [] s₁ H ⟨[.ref a], []⟩ [.ref a] [.ref a] _ _ hr rfl env0 bd (.cons rfl .nil) sp) fun r s' z => ?_
  match r, z with
  | .ok (.ret u), ⟨v, H', os, bare, un, hok', r', q⟩ =>
    have q' : v = .bl true := q
    subst q'
    obtain rfl : u = Value.bool true := r'
    refine ⟨rfl, OldK.of_keep fun b u e => ?_, os, bare⟩
    by_cases hb : b = a
    · subst hb
      obtain ⟨e1, _⟩ := hok b _ Ha
      obtain ⟨e2, _⟩ := hok' b _ (un.frzs b ob _ Ha)
      rw [e] at e1; cases e1
      exact e2
    · exact un.keep b u e (Hn b hb) (fun z => absurd (show b ∈ ([] : List Addr) from z) List.not_mem_nil) (by simp)
end MP
namespace MP
open PySem PySem.Spec L2 PyProof.Rows
/-! ### facts of the written part, put together -/
section
variable {K : Kf} {h : Heap} {mg : Str → Option Value}
theorem hasM_mk (X : K.In h) (G : h.Ns mainGlobals mg) {nm : Str} {st : Stmt} {f : Addr} {oc : Value} {od an : Option Addr} {osl : Array (Option Value)} {kV doc pm cdv ct : Value}
    (a : PySem.W.nsIn K mainGlobals nm = some (some (.ref f))) (l : K.lookup f = some ⟨oc, od, .func (PySem.W.fnOf nm nm (defArgs st) (defBody st) (defScope st) .none kV doc pm an cdv ct), osl⟩) (c : PySem.W.codeIn K cdv nm = true) (k : PySem.W.keepIn K (.ref f) = true) : HasM K mg nm st :=
  ⟨⟨f, _, fun_mk l c k, PySem.W.mg_of X G a⟩⟩
theorem HasM.named {nm nm' : Str} {st : Stmt} (h : HasM K mg nm' st) (e : nm = nm') : HasM K mg nm st := e ▸ h
def HasL (K : Kf) (mg : Str → Option Value) : List FD → List Stmt → Prop
  | fd :: fs, st :: ss => HasM K mg fd.name st ∧ HasL K mg fs ss
  | _, _ => True
theorem HasL.all : ∀ {fs : List FD} {ss : List Stmt}, HasL K mg fs ss → ∀ p ∈ fs.zip ss, HasM K mg p.1.name p.2
  | [], _, _, p, m => by simp at m
  | _ :: _, [], _, p, m => by simp at m
  | fd :: fs, st :: ss, ⟨h1, h2⟩, p, m => by
    rw [List.zip_cons_cons] at m
    rcases List.mem_cons.mp m with e | m
    · subst e; exact h1
    · exact HasL.all h2 p m
theorem blt_mk (X : K.In h) (G : h.Ns mainGlobals mg) (h1 : PySem.W.nsIn K mainGlobals "len" = some none) (h2 : PySem.W.nsIn K mainGlobals "abs" = some none) (h3 : PySem.W.nsIn K mainGlobals "sum" = some none) (h4 : PySem.W.nsIn K mainGlobals "min" = some none) (h5 : PySem.W.nsIn K mainGlobals "max" = some none)
    (h6 : PySem.W.nsIn K mainGlobals "sorted" = some none) (h7 : PySem.W.nsIn K mainGlobals "list" = some none) (h8 : PySem.W.nsIn K mainGlobals "tuple" = some none) (h9 : PySem.W.nsIn K mainGlobals "int" = some none) (h10 : PySem.W.nsIn K mainGlobals "str" = some none) (h11 : PySem.W.nsIn K mainGlobals "repr" = some none)
    (h12 : PySem.W.nsIn K mainGlobals "any" = some none) (h13 : PySem.W.nsIn K mainGlobals "all" = some none) (h14 : PySem.W.nsIn K mainGlobals "isinstance" = some none) (h15 : PySem.W.nsIn K mainGlobals "bool" = some none) (h16 : PySem.W.nsIn K mainGlobals "set" = some none) (h17 : PySem.W.nsIn K mainGlobals "zip" = some none)
    (h18 : PySem.W.nsIn K mainGlobals "range" = some none) (h19 : PySem.W.nsIn K mainGlobals "enumerate" = some none) : ∀ x, x ∈ bltNames → mg x = none := by
  intro x m
  unfold bltNames at m
  have no := fun {n : Str} (e : PySem.W.nsIn K mainGlobals n = some none) => PySem.W.mg_none_of X G e
  simp only [List.mem_cons, List.not_mem_nil, or_false] at m
  rcases m with e | e | e | e | e | e | e | e | e | e | e | e | e | e | e | e | e | e | e
  · rw [e, eq_len]; exact no h1
  · rw [e, eq_abs]; exact no h2
  · rw [e, eq_sum]; exact no h3
  · rw [e, eq_min]; exact no h4
  · rw [e, eq_max]; exact no h5
  · rw [e, eq_sorted]; exact no h6
  · rw [e, eq_list]; exact no h7
  · rw [e, eq_tuple]; exact no h8
  · rw [e, eq_int]; exact no h9
  · rw [e, eq_str]; exact no h10
  · rw [e, eq_repr]; exact no h11
  · rw [e, eq_any]; exact no h12
  · rw [e, eq_all]; exact no h13
  · rw [e, eq_isinstance]; exact no h14
  · rw [e, eq_bool]; exact no h15
  · rw [e, eq_set]; exact no h16
  · rw [e, eq_zip]; exact no h17
  · rw [e, eq_range]; exact no h18
  · rw [e, eq_enumerate]; exact no h19
def HasC (K : Kf) (mg : Str → Option Value) : List Str → List D → Prop
  | x :: xs, d :: ds => (∃ u, mg x = some u ∧ vrK K 6 d u = true) ∧ HasC K mg xs ds
  | [], _ => True
  | _ :: _, [] => False
theorem HasC.all : ∀ {cn : List Str} {cs : List D}, HasC K mg cn cs → ∀ (j : Nat) (x : Str), cn[j]? = some x → ∃ u v d, cs[j]? = some d ∧ mg x = some u ∧ RelV v u ∧ VR K (fun _ => none) [] d v
  | [], _, _, j, x, e => by simp at e
  | _ :: _, [], h, _, _, _ => h.elim
  | y :: xs, d :: ds, ⟨⟨u, h1, h2⟩, _⟩, 0, x, e => by
    cases (show y = x by simpa using e)
    obtain ⟨v, r, w⟩ := vrK_ok 6 d u h2
    exact ⟨u, v, d, rfl, h1, r, w⟩
  | y :: xs, d :: ds, ⟨_, h⟩, j + 1, x, e => by
    obtain ⟨u, v, d', e1, e2⟩ := HasC.all h j x (by simpa using e)
    exact ⟨u, v, d', by simpa using e1, e2⟩
theorem hasC_mk (X : K.In h) (G : h.Ns mainGlobals mg) {x nm : Str} {d : D} {u : Value} (a : PySem.W.nsIn K mainGlobals nm = some (some u)) (v : vrK K 6 d u = true) (e : x = nm) : ∃ u, mg x = some u ∧ vrK K 6 d u = true := ⟨u, by rw [e]; exact PySem.W.mg_of X G a, v⟩
end
end MP
end

section
set_option Elab.async false
set_option linter.all false
set_option maxRecDepth 100000
set_option maxHeartbeats 4000000
namespace MP
open PySem
/-! ## the pot of draws, as the laws k84..k99 have it -/
def bPot : Ss := (.cons (.asg (.tp (.cons (.nm 2) (.cons (.nm 3) .nil))) (.tup (.cons (.lc (.bin .Add (.bin .Mult (.c (.int 2)) (.bi .abs (.cons (.v 1) .nil))) (.bi .int (.cons (.cmp .Lt (.v 1) (.c (.int 0))) .nil))) (.nm 1) (.e (.sl false true (.v 0) .none (.c (.int 63)))) .nil [1]) (.cons (.bin .Add (.c (.int 19591)) (.bin .Mult (.c (.int 71)) (.bi .len (.cons (.v 0) .nil)))) .nil)))) (.cons (.for (.nm 1) (.e (.v 2)) (.cons (.asg (.nm 3) (.bin .Mod (.bin .Add (.bin .Add (.bin .Mult (.v 3) (.c (.int 69069))) (.v 1)) (.c (.int 11))) (.c (.int 4294967291)))) .nil)) (.cons (.ret (.al (.lst (.cons (.al (.lc (.v 1) (.nm 1) (.e (.v 2)) (.cons (.cmp .Gt (.v 1) (.bin .Pow (.c (.int 10)) (.c (.int 12)))) .nil) [1])) (.cons (.v 3) (.cons (.c (.int 0)) .nil)))))) .nil)))
def bOf : Ss := (.cons (.ite (.cmp .Lt (.v 1) (.c (.int 2))) (.cons (.ret (.c (.int 0))) .nil) .nil) (.cons (.ite (.cmp .NotEq (.ix (.v 0) (.c (.int 0))) (.lst .nil)) (.cons (.asg (.nm 3) (.meth .pop (.ix (.v 0) (.c (.int 0))) .nil)) (.cons (.ite (.cmp .GtE (.v 3) (.v 1)) (.cons (.exp (.meth .append (.ix (.v 0) (.c (.int 0))) (.cons (.bin .FloorDiv (.v 3) (.v 1)) .nil))) .nil) .nil) (.cons (.ret (.bin .Mod (.v 3) (.v 1))) .nil))) .nil) (.cons (.asg (.sb (.v 0) (.c (.int 2))) (.bin .Add (.ix (.v 0) (.c (.int 2))) (.c (.int 1)))) (.cons (.asg (.nm 2) (.bin .Mod (.bin .Add (.ix (.v 0) (.c (.int 1))) (.bin .Mult (.ix (.v 0) (.c (.int 2))) (.c (.int 2654435761)))) (.c (.int 4294967279)))) (.cons (.asg (.nm 2) (.bin .Mod (.bin .Add (.bin .Add (.bin .Mult (.v 2) (.v 2)) (.bin .Mult (.ix (.v 0) (.c (.int 2))) (.c (.int 40503)))) (.c (.int 5))) (.c (.int 4294967231)))) (.cons (.asg (.nm 2) (.bin .Mod (.bin .Add (.bin .Mult (.v 2) (.v 2)) (.ix (.v 0) (.c (.int 1)))) (.c (.int 4294967291)))) (.cons (.ret (.bin .Mod (.bin .FloorDiv (.v 2) (.c (.int 256))) (.v 1))) .nil)))))))
def pot (cells : List Int) (m c : Int) (rest : Hh) : Hh := .lst (cells.map D.int) :: .lst [.ref 0, .int m, .int c] :: rest
theorem mulOk_r {i j : Int} (h : j.natAbs < 18446744073709551616) : mulOk i j = true := by
  unfold mulOk
  rw [Nat.blt_eq.mpr h]
  simp
theorem mulOk_l {i j : Int} (h : i.natAbs < 18446744073709551616) : mulOk i j = true := by
  unfold mulOk
  rw [Nat.blt_eq.mpr h]
  simp
theorem py_ints (h : Hh) (k : Nat) : ∀ ns : List Int, allO ((ns.map D.int).map (py h (k + 1))) = some (ns.map PyData.int)
  | [] => rfl
  | n :: ns => by
    show allO (some (PyData.int n) :: (ns.map D.int).map (py h (k + 1))) = _
    unfold allO
    rw [py_ints h k ns]
    rfl
theorem lay_ints : ∀ cells : List Int, PyData.canLayAll0 (cells.map PyData.int) = true
  | [] => by simp only [List.map_nil, PyData.canLayAll0]
  | c :: r => by simp only [List.map_cons, PyData.canLayAll0, PyData.canLay0, lay_ints r, Bool.and_self]
theorem dep_ints : ∀ cells : List Int, PyData.depthAll (cells.map PyData.int) ≤ 1
  | [] => by simp only [List.map_nil, PyData.depthAll]; omega
  | c :: r => by
    have := dep_ints r
    simp only [List.map_cons, PyData.depthAll, PyData.depth]
    omega
theorem shaped_ints (cells : List Int) : SeqAt.shaped (.list (cells.map PyData.int)) = true := by
  have := dep_ints cells
  have e1 : (PyData.list (cells.map PyData.int)).canLay0 = true := by simp only [PyData.canLay0, lay_ints]
  have e2 : (PyData.list (cells.map PyData.int)).depth ≤ 64 := by simp only [PyData.depth]; omega
  show (_ && decide _) = true
  rw [e1, decide_eq_true e2]; rfl
theorem eq_nil (cells : List Int) (m c : Int) (rest : Hh) : eqD (.d (.ref 0)) (.fl []) (pot cells m c rest) = some (decide (cells = [])) := by
  have e1 : py (pot cells m c rest) deep (R.d (.ref 0)).toD = some (.list (cells.map PyData.int)) := by
    show (match allO ((cells.map D.int).map (py (pot cells m c rest) 39)) with
      | some l => some (PyData.list l)
      | none => none) = _
    rw [py_ints _ 38 cells]
  have e2 : py (pot cells m c rest) deep (R.fl []).toD = some (.list []) := rfl
  have e3 : SeqAt.shaped (.list []) = true := shaped_ints []
  show (match py (pot cells m c rest) deep (R.d (.ref 0)).toD, py (pot cells m c rest) deep (R.fl []).toD with
    | some a, some b => if SeqAt.shaped a && SeqAt.shaped b then some (PyData.eqv a b) else none
    | _, _ => none) = _
  rw [e1, e2]
  simp only [shaped_ints, e3, Bool.and_self, if_true]
  cases cells with
  | nil => simp only [List.map_nil, PyData.eqv, PyData.eqvAll, decide_true]
  | cons x r => simp only [List.map_cons, PyData.eqv, PyData.eqvAll]; rfl
/-! ### steps -/
theorem seq_nx {a b : DenS} {en en' : En} {h h' : Hh} (e : a en h = .ok (.nx en') h') : kSeq a b en h = b en' h' := by unfold kSeq; rw [e]
theorem seq_rt {a b : DenS} {en : En} {r : R} {h h' : Hh} (e : a en h = .ok (.rt r) h') : kSeq a b en h = .ok (.rt r) h' := by unfold kSeq; rw [e]
theorem ite_t {t : Den} {a b : DenS} {en : En} {h h' : Hh} {r : R} (e : t en h = .ok r h') (er : truth h' r = some true) : kIteS t a b en h = a en h' := by unfold kIteS; rw [e]; show (match truth h' r with | some true => _ | some false => _ | none => _) = _; rw [er]
theorem ite_f {t : Den} {a b : DenS} {en : En} {h h' : Hh} {r : R} (e : t en h = .ok r h') (er : truth h' r = some false) : kIteS t a b en h = b en h' := by unfold kIteS; rw [e]; show (match truth h' r with | some true => _ | some false => _ | none => _) = _; rw [er]
theorem asg_ok {t : DenT} {e : Den} {en en' : En} {h h' h'' : Hh} {r : R} (e1 : e en h = .ok r h') (e2 : t en r h' = .ok en' h'') : kAsg t e en h = .ok (.nx en') h'' := by
  unfold kAsg; rw [e1]; show (t en r h').bind _ = _; rw [e2]; rfl
section
variable (cl : Cl) (cs : List D)
theorem mul_l (i j : Int) (h : Hh) (e : j.natAbs < 18446744073709551616) : mulD (.d (.int i)) (.d (.int j)) h = some (.d (.int (i * j))) := by
  show (if mulOk i j then _ else none) = _
  rw [mulOk_r e]; rfl
theorem mul_lo (i j : Int) (h : Hh) (e : i.natAbs < 18446744073709551616) : mulD (.d (.int i)) (.d (.int j)) h = some (.d (.int (i * j))) := by
  show (if mulOk i j then _ else none) = _
  rw [mulOk_l e]; rfl
theorem mod_p (i j : Int) (h : Hh) (e : 0 < j) : modD (.d (.int i)) (.d (.int j)) h = some (.d (.int (i % j))) := by
  show (if 0 < j then _ else none) = _
  rw [if_pos e]
theorem log_lt {j : Int} (e : j.natAbs < 18446744073709551616) : j.natAbs.log2 < 9000 := by
  by_cases z : j.natAbs = 0
  · rw [z]; decide
  · have := (Nat.log2_lt z (k := 64)).mpr (by omega)
    omega
theorem fdiv_p (i j : Int) (h : Hh) (e : 0 < j) (e2 : j.natAbs < 18446744073709551616) : fdivD (.d (.int i)) (.d (.int j)) h = some (.d (.int (i / j))) := by
  show (if 0 < j ∧ j.natAbs.log2 < 9000 then _ else none) = _
  rw [if_pos ⟨e, log_lt e2⟩]
end
end MP
end

section
set_option Elab.async false
set_option linter.all false
set_option maxRecDepth 100000
set_option maxHeartbeats 4000000
namespace MP
open PySem
theorem ok_bind {α β : Type} (a : α) (h : Hh) (k : α → Hh → Out β) : (Out.ok a h).bind k = k a h := rfl
theorem pop_last (l : List Int) (x : Int) (m c : Int) (rest : Hh) : methD .pop (.d (.ref 0)) [] (pot (l ++ [x]) m c rest) = .ok (.d (.int x)) (pot l m c rest) := by
  show (match ((l ++ [x]).map D.int)[((l ++ [x]).map D.int).length - 1]? with
    | some y => Out.ok (R.d y) ((pot (l ++ [x]) m c rest).set 0 (.lst ((l ++ [x]).map D.int).dropLast))
    | none => .no) = _
  have e1 : ((l ++ [x]).map D.int)[((l ++ [x]).map D.int).length - 1]? = some (.int x) := by simp
  have e2 : ((l ++ [x]).map D.int).dropLast = l.map D.int := by simp
  rw [e1, e2]; rfl
theorem app_last (l : List Int) (x : Int) (m c : Int) (rest : Hh) (hl : l.length < sizeLine) : methD .append (.d (.ref 0)) [.d (.int x)] (pot l m c rest) = .ok (.d .non) (pot (l ++ [x]) m c rest) := by
  show (if lowD 0 (.int x) ∧ (l.map D.int).length < sizeLine then Out.ok (R.d .non) ((pot l m c rest).set 0 (.lst (l.map D.int ++ [.int x]))) else .no) = _
  rw [if_pos ⟨rfl, by rw [List.length_map]; exact hl⟩]
  show _ = Out.ok _ (O.lst ((l ++ [x]).map D.int) :: _)
  rw [List.map_append]; rfl
theorem truth_bl (h : Hh) (b : Bool) : truth h (.d (.bl b)) = some b := rfl
theorem ix0 (cells : List Int) (m c : Int) (rest : Hh) : ixD (.d (.ref 1)) (.d (.int 0)) (pot cells m c rest) = some (.ref 0) := rfl
theorem ix1 (cells : List Int) (m c : Int) (rest : Hh) : ixD (.d (.ref 1)) (.d (.int 1)) (pot cells m c rest) = some (.int m) := rfl
theorem ix2 (cells : List Int) (m c : Int) (rest : Hh) : ixD (.d (.ref 1)) (.d (.int 2)) (pot cells m c rest) = some (.int c) := rfl
theorem sb2 (en : En) (cells : List Int) (m c d : Int) (rest : Hh) : sbOut (.int d) en (.d (.ref 1)) (.d (.int 2)) (pot cells m c rest) = .ok en (pot cells m d rest) := rfl
theorem add_i (i j : Int) (h : Hh) : addD (.d (.int i)) (.d (.int j)) h = some (.d (.int (i + j))) := rfl
theorem sub_i (i j : Int) (h : Hh) : subD (.d (.int i)) (.d (.int j)) h = some (.d (.int (i - j))) := rfl
theorem lt_i (i j : Int) (h : Hh) : ltD (.d (.int i)) (.d (.int j)) h = some (decide (i < j)) := rfl
theorem ge_i (i j : Int) (h : Hh) : geD (.d (.int i)) (.d (.int j)) h = some (decide (j ≤ i)) := rfl
theorem eq_i (i j : Int) (h : Hh) : eqD (.d (.int i)) (.d (.int j)) h = some (decide (i = j)) := rfl
theorem dOut_s (d : D) (h : Hh) : dOut (some d) h = .ok (.d d) h := rfl
theorem ofO_s {α : Type} (d : α) (h : Hh) : ofO (some d) h = .ok d h := rfl
theorem blR_s (d : Bool) (h : Hh) : blR (some d) h = .ok (.d (.bl d)) h := rfl
theorem toD_d (d : D) : (R.d d).toD = d := rfl
theorem toD_fl (d : List D) : (R.fl d).toD = .lst d := rfl
theorem lst_nil (en : En) (h : Hh) : kLst kNil en h = .ok (.fl []) h := rfl
section
variable (cl : Cl) (cs : List D)
theorem draw (cells : List Int) (m c : Int) (rest : Hh) (many : Int) (hm : 2 ≤ many) (hM : many < 18446744073709551616) (hc : cells.length ≤ 63) :
    ∃ z cells' c', dSs cl cs bOf [some (.ref 1), some (.int many), none, none] (pot cells m c rest) = .ok (.rt (.d (.int z))) (pot cells' m c' rest) ∧ 0 ≤ z ∧ z < many ∧ cells'.length ≤ 63 := by
  have e1 : ¬ many < 2 := by omega
  have hp : 0 < many := by omega
  have hn : many.natAbs < 18446744073709551616 := by omega
  have fd (i : Int) (h : Hh) := fdiv_p i many h hp hn
  have md (i : Int) (h : Hh) := mod_p i many h hp
  rcases List.eq_nil_or_concat cells with rfl | ⟨l, x, rfl⟩
  · have key : ∀ n1 n2 n3 : Int, n1 = (m + (c + 1) * 2654435761) % 4294967279 → n2 = (n1 * n1 + (c + 1) * 40503 + 5) % 4294967231 → n3 = (n2 * n2 + m) % 4294967291 → dSs cl cs bOf [some (.ref 1), some (.int many), none, none] (pot [] m c rest) = .ok (.rt (.d (.int (n3 / 256 % many)))) (pot [] m (c + 1) rest) := by
      intro n1 n2 n3 q1 q2 q3
      have b1 : n1.natAbs < 18446744073709551616 := by omega
      have b2 : n2.natAbs < 18446744073709551616 := by omega
      have t1 (h : Hh) := mul_l n1 n1 h b1
      have t2 (h : Hh) := mul_l n2 n2 h b2
      have t3 (h : Hh) := mul_l (c + 1) 2654435761 h (by decide)
      have t4 (h : Hh) := mul_l (c + 1) 40503 h (by decide)
      have t5 (i : Int) (h : Hh) := mod_p i 4294967279 h (by decide)
      have t6 (i : Int) (h : Hh) := mod_p i 4294967231 h (by decide)
      have t7 (i : Int) (h : Hh) := mod_p i 4294967291 h (by decide)
      have t8 (i : Int) (h : Hh) := fdiv_p i 256 h (by decide) (by decide)
      simp only [bOf, dSs, dS, dE, dEs, dT, kSeq, kIteS, kAsg, kExp, kRet, kPass, kCmp, kBin, kIx, lst_nil, kNil, kCons, kMeth, kSb, kNm, kV, kC, ok_bind, cmpD, binD, neD, eq_nil, truth_bl, ix0, ix1, ix2, sb2, add_i, sub_i, lt_i, ge_i, eq_i, dOut_s, ofO_s, blR_s, toD_d, e1, t3, t4, t5, t8, fd, md,
        List.getElem?_cons_succ, List.getElem?_cons_zero, List.set_cons_succ, List.set_cons_zero, List.length_cons, List.length_nil, Nat.reduceAdd, Nat.reduceLT, if_true, decide_true, decide_false, Bool.not_true, ← q1, t1, t6, ← q2, t2, t7, ← q3]
    have k3 := key _ _ _ rfl rfl rfl
    exact ⟨_, [], c + 1, k3, Int.emod_nonneg _ (by omega), Int.emod_lt_of_pos _ hp, by simp⟩
  · rw [List.concat_eq_append] at hc ⊢
    have nn : decide (l ++ [x] = []) = false := by simp
    have hl : l.length + 1 ≤ 63 := by simpa using hc
    by_cases g : many ≤ x
    · refine ⟨x % many, l ++ [x / many], c, ?_, Int.emod_nonneg _ (by omega), Int.emod_lt_of_pos _ hp, by simpa using hc⟩
      have ap := app_last l (x / many) m c rest (by unfold sizeLine; omega)
      simp only [bOf, dSs, dS, dE, dEs, dT, kSeq, kIteS, kAsg, kExp, kRet, kPass, kCmp, kBin, kIx, lst_nil, kNil, kCons, kMeth, kSb, kNm, kV, kC, ok_bind, cmpD, binD, neD, eq_nil, truth_bl, ix0, ix1, ix2, sb2, add_i, sub_i, lt_i, ge_i, eq_i, dOut_s, ofO_s, blR_s, toD_d, e1, fd, md, g, nn, pop_last, ap,
        List.getElem?_cons_succ, List.getElem?_cons_zero, List.set_cons_succ, List.set_cons_zero, List.length_cons, List.length_nil, Nat.reduceAdd, Nat.reduceLT, if_true, decide_true, decide_false, Bool.not_true, Bool.not_false]
    · refine ⟨x % many, l, c, ?_, Int.emod_nonneg _ (by omega), Int.emod_lt_of_pos _ hp, by omega⟩
      simp only [bOf, dSs, dS, dE, dEs, dT, kSeq, kIteS, kAsg, kExp, kRet, kPass, kCmp, kBin, kIx, lst_nil, kNil, kCons, kMeth, kSb, kNm, kV, kC, ok_bind, cmpD, binD, neD, eq_nil, truth_bl, ix0, ix1, ix2, sb2, add_i, sub_i, lt_i, ge_i, eq_i, dOut_s, ofO_s, blR_s, toD_d, e1, fd, md, g, nn, pop_last,
        List.getElem?_cons_succ, List.getElem?_cons_zero, List.set_cons_succ, List.set_cons_zero, List.length_cons, List.length_nil, Nat.reduceAdd, Nat.reduceLT, if_true, decide_true, decide_false, Bool.not_true, Bool.not_false]
end
end MP
end

section
set_option Elab.async false
set_option linter.all false
set_option maxRecDepth 100000
set_option maxHeartbeats 4000000
namespace MP
open PySem
theorem lc_map {step : D → Hh → Out (Option D)} {f : Int → Int} {h : Hh} (hs : ∀ x, step (.int x) h = .ok (some (.int (f x))) h) :
    ∀ (xs : List Int) (n : Nat) (acc : List D), xs.length < n → lcLoop step n (.st (xs.map D.int)) acc h = .ok (acc.reverse ++ (xs.map f).map D.int) h
  | [], 0, acc, l => absurd l (by simp)
  | [], n + 1, acc, _ => by
    show Out.ok acc.reverse h = _
    simp
  | x :: xs, 0, acc, l => absurd l (by simp)
  | x :: xs, n + 1, acc, l => by
    show (match step (.int x) h with
      | .ok (some y) h' => lcLoop step n (.st (xs.map D.int)) (y :: acc) h'
      | .ok none h' => lcLoop step n (.st (xs.map D.int)) acc h'
      | .er e h' => .er e h'
      | .no => .no) = _
    rw [hs]
    show lcLoop step n (.st (xs.map D.int)) _ h = _
    rw [lc_map hs xs n _ (by simp only [List.length_cons] at l; omega)]
    simp
theorem lc_filter {step : D → Hh → Out (Option D)} {p : Int → Bool} {h : Hh} (hs : ∀ x, step (.int x) h = .ok (if p x then some (.int x) else none) h) :
    ∀ (xs : List Int) (n : Nat) (acc : List D), xs.length < n → lcLoop step n (.st (xs.map D.int)) acc h = .ok (acc.reverse ++ (xs.filter p).map D.int) h
  | [], 0, acc, l => absurd l (by simp)
  | [], n + 1, acc, _ => by
    show Out.ok acc.reverse h = _
    simp
  | x :: xs, 0, acc, l => absurd l (by simp)
  | x :: xs, n + 1, acc, l => by
    show (match step (.int x) h with
      | .ok (some y) h' => lcLoop step n (.st (xs.map D.int)) (y :: acc) h'
      | .ok none h' => lcLoop step n (.st (xs.map D.int)) acc h'
      | .er e h' => .er e h'
      | .no => .no) = _
    have l' : xs.length < n := by simp only [List.length_cons] at l; omega
    rw [hs]
    cases hp : p x with
    | true =>
      show lcLoop step n (.st (xs.map D.int)) (.int x :: acc) h = _
      rw [lc_filter hs xs n _ l']
      simp [hp]
    | false =>
      show lcLoop step n (.st (xs.map D.int)) acc h = _
      rw [lc_filter hs xs n _ l']
      simp [hp]
/-- a loop over a fixed list that never returns, with what stays true -/
theorem for_st {step : D → En → Hh → Out Fl} (I : En → Hh → Prop) :
    ∀ (ds : List D) (n : Nat) (en : En) (h : Hh), (∀ d, d ∈ ds → ∀ en h, I en h → ∃ en' h', step d en h = .ok (.nx en') h' ∧ I en' h') → ds.length < n → I en h → ∃ en' h', forLoop step n (.st ds) en h = .ok (.nx en') h' ∧ I en' h'
  | [], 0, en, h, _, l, _ => absurd l (by simp)
  | [], n + 1, en, h, _, _, i => ⟨en, h, rfl, i⟩
  | x :: xs, 0, en, h, _, l, _ => absurd l (by simp)
  | x :: xs, n + 1, en, h, hs, l, i => by
    obtain ⟨en1, h1, e1, i1⟩ := hs x (List.mem_cons_self ..) en h i
    obtain ⟨en2, h2, e2, i2⟩ := for_st I xs n en1 h1 (fun d hd => hs d (List.mem_cons_of_mem _ hd)) (by simp only [List.length_cons] at l; omega) i1
    refine ⟨en2, h2, ?_, i2⟩
    show (match step x en h with
      | .ok (.nx en') h' => forLoop step n (.st xs) en' h'
      | .ok (.rt r) h' => .ok (.rt r) h'
      | .er e h' => .er e h'
      | .no => .no) = _
    rw [e1]; exact e2
theorem cut_ints (ns : List Int) (lo hi : Option Int) : ∃ ms : List Int, cutD (ns.map D.int) lo hi = ms.map D.int ∧ ms.length ≤ ns.length := by
  refine ⟨(ns.drop (HT.sIx (ns.map D.int).length 0 lo)).take (HT.sIx (ns.map D.int).length (ns.map D.int).length hi - HT.sIx (ns.map D.int).length 0 lo), ?_, ?_⟩
  · unfold cutD
    rw [List.map_take, List.map_drop]
  · rw [List.length_take, List.length_drop]; omega
/-! ### a def's run -/
theorem run_rt {cs : List D} {fds : List FD} {k i : Nat} {fd : FD} {ds : List D} {h h' : Hh} {r : R} (e : fds[i]? = some fd) (l : ds.length = fd.ps.length ∧ fd.ps.length ≤ fd.N.length)
    (b : dSs (runF cs fds k) cs fd.body (ds.map some ++ List.replicate (fd.N.length - ds.length) none) h = .ok (.rt r) h') : runF cs fds (k + 1) i ds h = fin h.length fd.fz r h' := by
  show (match fds[i]? with
    | none => Out.no
    | some fd => if ds.length = fd.ps.length ∧ fd.ps.length ≤ fd.N.length then
        match dSs (runF cs fds k) cs fd.body (ds.map some ++ List.replicate (fd.N.length - ds.length) none) h with
        | .ok (.nx _) h' => fin h.length fd.fz (.d .non) h'
        | .ok (.rt r) h' => fin h.length fd.fz r h'
        | .er e h' => .er e h'
        | .no => .no
      else .no) = _
  rw [e]
  show (if _ then _ else _) = _
  rw [if_pos l, b]
def eA : E := (.lc (.bin .Add (.bin .Mult (.c (.int 2)) (.bi .abs (.cons (.v 1) .nil))) (.bi .int (.cons (.cmp .Lt (.v 1) (.c (.int 0))) .nil))) (.nm 1) (.e (.sl false true (.v 0) .none (.c (.int 63)))) .nil [1])
def eC : E := (.lc (.v 1) (.nm 1) (.e (.v 2)) (.cons (.cmp .Gt (.v 1) (.bin .Pow (.c (.int 10)) (.c (.int 12)))) .nil) [1])
def sL : S := (.for (.nm 1) (.e (.v 2)) (.cons (.asg (.nm 3) (.bin .Mod (.bin .Add (.bin .Add (.bin .Mult (.v 3) (.c (.int 69069))) (.v 1)) (.c (.int 11))) (.c (.int 4294967291)))) .nil))
theorem bPot_eq : bPot = (.cons (.asg (.tp (.cons (.nm 2) (.cons (.nm 3) .nil))) (.tup (.cons eA (.cons (.bin .Add (.c (.int 19591)) (.bin .Mult (.c (.int 71)) (.bi .len (.cons (.v 0) .nil)))) .nil)))) (.cons sL (.cons (.ret (.al (.lst (.cons (.al eC) (.cons (.v 3) (.cons (.c (.int 0)) .nil)))))) .nil))) := rfl
section
variable (cl : Cl) (cs : List D)
theorem mk_pot (ns : List Int) (hn : ns.length ≤ 63) :
    ∃ cells m, dSs cl cs bPot [some (.lst (ns.map D.int)), none, none, none] [] = .ok (.rt (.d (.ref 1))) (pot cells m 0 []) ∧ cells.length ≤ 63 := by
  obtain ⟨ms, em, lm⟩ := cut_ints ns none (some 63)
  have s1 : ∀ x : Int, kTurn (dE cl cs (.bin .Add (.bin .Mult (.c (.int 2)) (.bi .abs (.cons (.v 1) .nil))) (.bi .int (.cons (.cmp .Lt (.v 1) (.c (.int 0))) .nil)))) (kNm 1) kYes [some (.lst (ns.map D.int)), none, none, none] (.int x) [] = .ok (some (.int (2 * (if x < 0 then -x else x) + (if decide (x < 0) then 1 else 0)))) [] := by
    intro x
    have t1 (j : Int) (h : Hh) := mul_lo 2 j h (by decide)
    have t2 (x : Int) (h : Hh) : biD .abs [.d (.int x)] h = some (.d (.int (if x < 0 then -x else x))) := rfl
    have t3 (k : Bool) (h : Hh) : biD .int [.d (.bl k)] h = some (.d (.int (if k then 1 else 0))) := rfl
    simp only [kTurn, kYes, dE, dEs, kBi, kBin, kCmp, kNm, kV, kC, kNil, kCons, ok_bind, cmpD, binD, add_i, lt_i, ofO_s, blR_s, toD_d, t1, t2, t3,
        List.getElem?_cons_succ, List.getElem?_cons_zero, List.set_cons_succ, List.set_cons_zero, List.length_cons, List.length_nil, Nat.reduceAdd, Nat.reduceLT, if_true]
  have hle : ms.length < FUEL := by unfold FUEL; omega
  have l1 := lc_map s1 ms FUEL [] hle
  generalize hc : ms.map (fun x : Int => 2 * (if x < 0 then -x else x) + (if decide (x < 0) then 1 else 0)) = cells at l1
  have lc : cells.length ≤ 63 := by rw [← hc, List.length_map]; omega
  have hle2 : (cells.map D.int).length < FUEL := by rw [List.length_map]; unfold FUEL; omega
  have sl : slD (.d (.lst (ns.map D.int))) none (some 63) [] = some (.fl (ms.map D.int)) := by
    show some (R.fl (cutD (ns.map D.int) none (some 63))) = _
    rw [em]
  have len1 : biD .len [.d (.lst (ns.map D.int))] [] = some (.d (.int (ns.map D.int).length)) := rfl
  have cu1 : curOf [] (.fl (ms.map D.int)) = some (.st (ms.map D.int)) := rfl
  have cu2 : curOf [] (.d (.lst (cells.map D.int))) = some (.st (cells.map D.int)) := rfl
  have t1 (j : Int) (h : Hh) := mul_lo 71 j h (by decide)
  have t2 (j : Int) (h : Hh) := mul_l j 69069 h (by decide)
  have t3 (i : Int) (h : Hh) := mod_p i 4294967291 h (by decide)
  have loop : ∀ m0 : Int, ∃ en' h', forLoop (fun d en h => (kNm 1 en (.d d) h).bind fun en h => dSs cl cs (.cons (.asg (.nm 3) (.bin .Mod (.bin .Add (.bin .Add (.bin .Mult (.v 3) (.c (.int 69069))) (.v 1)) (.c (.int 11))) (.c (.int 4294967291)))) .nil) en h) FUEL (.st (cells.map D.int)) [some (.lst (ns.map D.int)), none, some (.lst (cells.map D.int)), some (.int m0)] [] = .ok (.nx en') h' ∧ (h' = [] ∧ ∃ a m, en' = [some (.lst (ns.map D.int)), a, some (.lst (cells.map D.int)), some (.int m)]) := by
    intro m0
    refine for_st (fun en h => h = [] ∧ ∃ a m, en = [some (.lst (ns.map D.int)), a, some (.lst (cells.map D.int)), some (.int m)]) _ _ _ _ ?_ hle2 ⟨rfl, none, m0, rfl⟩
    rintro d hd en h ⟨rfl, a, m, rfl⟩
    obtain ⟨x, _, rfl⟩ := List.mem_map.mp hd
    refine ⟨_, _, ?_, rfl, some (.int x), (m * 69069 + x + 11) % 4294967291, rfl⟩
    simp only [dSs, dS, dE, dT, kSeq, kAsg, kPass, kBin, kNm, kV, kC, ok_bind, binD, add_i, ofO_s, toD_d, t2, t3,
        List.getElem?_cons_succ, List.getElem?_cons_zero, List.set_cons_succ, List.set_cons_zero, List.length_cons, List.length_nil, Nat.reduceAdd, Nat.reduceLT, if_true]
  obtain ⟨en', h', e2, rfl, a, m, rfl⟩ := loop (19591 + 71 * ((ns.map D.int).length : Int))
  have s2 : ∀ x : Int, kTurn (dE cl cs (.v 1)) (kNm 1) (dIf cl cs (.cons (.cmp .Gt (.v 1) (.bin .Pow (.c (.int 10)) (.c (.int 12)))) .nil)) [some (.lst (ns.map D.int)), none, some (.lst (cells.map D.int)), some (.int m)] (.int x) [] = .ok (if decide (1000000000000 < x) then some (.int x) else none) [] := by
    intro x
    have t4 (h : Hh) : binD .Pow (.d (.int 10)) (.d (.int 12)) h = some (.d (.int 1000000000000)) := rfl
    have t5 (h : Hh) : gtD (.d (.int x)) (.d (.int 1000000000000)) h = some (decide ((1000000000000 : Int) < x)) := rfl
    simp only [kTurn, kYes, kIf, dIf, dE, dEs, kBin, kCmp, kNm, kV, kC, ok_bind, cmpD, t4, t5, ofO_s, blR_s, toD_d, truth_bl,
        List.getElem?_cons_succ, List.getElem?_cons_zero, List.set_cons_succ, List.set_cons_zero, List.length_cons, List.length_nil, Nat.reduceAdd, Nat.reduceLT, if_true]
    cases decide ((1000000000000 : Int) < x) <;> rfl
  have l2 := lc_filter s2 cells FUEL [] (by unfold FUEL; omega)
  refine ⟨cells.filter fun x => decide (1000000000000 < x), m, ?_, Nat.le_trans (List.length_filter_le _ _) lc⟩
  have fA : dE cl cs eA [some (.lst (ns.map D.int)), none, none, none] [] = .ok (.fl (cells.map D.int)) [] := by
    have it : dI cl cs (.e (.sl false true (.v 0) .none (.c (.int 63)))) [some (.lst (ns.map D.int)), none, none, none] [] = .ok (.st (ms.map D.int)) [] := by
      have pa : (kPart true (kC (.int 63)) : En → Hh → Out (Option Int)) [some (.lst (ns.map D.int)), none, none, none] [] = .ok (some 63) [] := rfl
      have pb : ∀ d, (kPart false d : En → Hh → Out (Option Int)) [some (.lst (ns.map D.int)), none, none, none] [] = .ok none [] := fun _ => rfl
      simp only [dI, kIe, dE, kSl, kV, kC, ok_bind, pb, List.getElem?_cons_zero]
      rw [pa]
      simp only [ok_bind, sl, ofO_s, cu1]
    show kLc _ (kNm 1) (dI cl cs (.e (.sl false true (.v 0) .none (.c (.int 63))))) kYes [1] _ _ = _
    unfold kLc
    rw [it, ok_bind]
    have w : wipeE [some (.lst (ns.map D.int)), none, none, none] [1] = [some (.lst (ns.map D.int)), none, none, none] := rfl
    rw [w, l1]
    rfl
  have fL : dS cl cs sL [some (.lst (ns.map D.int)), none, some (.lst (cells.map D.int)), some (.int (19591 + 71 * ((ns.map D.int).length : Int)))] [] = .ok (.nx [some (.lst (ns.map D.int)), a, some (.lst (cells.map D.int)), some (.int m)]) [] := by
    show kFor (kNm 1) (dI cl cs (.e (.v 2))) (dSs cl cs _) _ _ = _
    unfold kFor
    have it2 : ∀ x, dI cl cs (.e (.v 2)) [some (.lst (ns.map D.int)), none, some (.lst (cells.map D.int)), x] [] = .ok (.st (cells.map D.int)) [] := by
      intro x
      simp only [dI, kIe, dE, kV, ok_bind, cu2, ofO_s, List.getElem?_cons_zero, List.getElem?_cons_succ]
    rw [it2, ok_bind]
    exact e2
  have fC : ∀ b, dE cl cs eC [some (.lst (ns.map D.int)), b, some (.lst (cells.map D.int)), some (.int m)] [] = .ok (.fl ((cells.filter fun x => decide (1000000000000 < x)).map D.int)) [] := by
    intro b
    have it3 : dI cl cs (.e (.v 2)) [some (.lst (ns.map D.int)), b, some (.lst (cells.map D.int)), some (.int m)] [] = .ok (.st (cells.map D.int)) [] := by
      simp only [dI, kIe, dE, kV, ok_bind, cu2, ofO_s, List.getElem?_cons_zero, List.getElem?_cons_succ]
    show kLc (dE cl cs (.v 1)) (kNm 1) (dI cl cs (.e (.v 2))) (dIf cl cs _) [1] _ _ = _
    unfold kLc
    rw [it3, ok_bind]
    have w : wipeE [some (.lst (ns.map D.int)), b, some (.lst (cells.map D.int)), some (.int m)] [1] = [some (.lst (ns.map D.int)), none, some (.lst (cells.map D.int)), some (.int m)] := rfl
    rw [w, l2]
    rfl
  have e5 : ∀ (x : List D), (alR (.fl x) [] : Out R) = .ok (.d (.ref 0)) [.lst x] := fun _ => rfl
  have e6 : ∀ (x y : List D), (alR (.fl x) [.lst y] : Out R) = .ok (.d (.ref 1)) [.lst y, .lst x] := fun _ _ => rfl
  rw [bPot_eq]
  have v1 : ∀ ds, viewT (.d (.tup ds)) = some ds := fun _ => rfl
  have n2 : line 2 = true := by decide
  have n3 : line 3 = true := by decide
  simp only [dSs, dS, dE, dEs, dT, dTs, kSeq, kAsg, kRet, kPass, kTup, kLst, kTp, kTcons, kTnil, kAl, kBi, kBin, kNm, kV, kC, kNil, kCons, ok_bind, binD, add_i, ofO_s, toD_d, toD_fl, v1, n2, n3, fA, fL, fC, len1, t1, e5, e6, List.map_cons, List.map_nil,
        List.getElem?_cons_succ, List.getElem?_cons_zero, List.set_cons_succ, List.set_cons_zero, List.length_cons, List.length_nil, Nat.reduceAdd, Nat.reduceLT, if_true]
  rfl
end
end MP
end

section
set_option Elab.async false
set_option linter.all false
set_option maxRecDepth 100000
set_option maxHeartbeats 4000000
namespace MP
open PySem
theorem atI_nat {ds : List D} {z : Int} (a : 0 ≤ z) (b : z < ds.length) : ∃ d, L2.atI ds z = some d ∧ d ∈ ds := by
  have hz : z.toNat < ds.length := by omega
  refine ⟨ds[z.toNat], ?_, List.getElem_mem hz⟩
  unfold L2.atI L2.ixN
  rw [if_pos a]
  first
    | (rw [if_pos (by omega)]; show ds[z.toNat]? = _; exact List.getElem?_eq_getElem hz)
def bOne : Ss := (.cons (.ret (.ix (.v 1) (.call 22 (.cons (.v 0) (.cons (.bi .len (.cons (.v 1) .nil)) .nil)) .nil [0, 1]))) .nil)
theorem fin_int (h h' : Hh) (z : Int) (l : h'.length = h.length) : fin h.length true (.d (.int z)) h' = .ok (.d (.int z)) h' := by
  show Out.ok _ (h'.take h.length) = _
  rw [← l, List.take_length]
section
variable {cs : List D} {fds : List FD} {k : Nat}
theorem callD_ref (cl : Cl) (f : Nat) (n : Nat) (ds : List D) (h : Hh) : callD cl f (.ref n :: ds) h = cl f (.ref n :: ds) h := rfl
theorem of_call {i : Nat} {fd : FD} (e : fds[i]? = some fd) (eb : fd.body = bOf) (ez : fd.fz = true) (ep : fd.ps.length = 2) (eN : fd.N.length = 4)
    (cells : List Int) (m c : Int) (rest : Hh) (many : Int) (hm : 1 ≤ many) (hM : many < 18446744073709551616) (hc : cells.length ≤ 63) :
    ∃ z cells' c', callD (runF cs fds (k + 1)) i [.ref 1, .int many] (pot cells m c rest) = .ok (.d (.int z)) (pot cells' m c' rest) ∧ 0 ≤ z ∧ z < many ∧ cells'.length ≤ 63 := by
  have go : ∃ z cells' c', dSs (runF cs fds k) cs bOf [some (.ref 1), some (.int many), none, none] (pot cells m c rest) = .ok (.rt (.d (.int z))) (pot cells' m c' rest) ∧ 0 ≤ z ∧ z < many ∧ cells'.length ≤ 63 := by
    by_cases g : many < 2
    · refine ⟨0, cells, c, ?_, by omega, by omega, hc⟩
      simp only [bOf, dSs, dS, dE, kSeq, kIteS, kRet, kCmp, kV, kC, ok_bind, cmpD, truth_bl, lt_i, blR_s, g, decide_true, List.getElem?_cons_succ, List.getElem?_cons_zero]
    · exact draw _ cs cells m c rest many (by omega) hM hc
  obtain ⟨z, cells', c', b, z0, z1, lc⟩ := go
  refine ⟨z, cells', c', ?_, z0, z1, lc⟩
  rw [callD_ref]
  rw [run_rt (r := .d (.int z)) (h' := pot cells' m c' rest) e (by rw [ep, eN]; exact ⟨rfl, by decide⟩) (by rw [eb, eN]; exact b), ez]
  exact fin_int _ _ _ (by simp [pot])
theorem pot_call {i : Nat} {fd : FD} (e : fds[i]? = some fd) (eb : fd.body = bPot) (ez : fd.fz = false) (ep : fd.ps.length = 1) (eN : fd.N.length = 4)
    (ns : List Int) (hn : ns.length ≤ 63) :
    ∃ cells m, callD (runF cs fds (k + 1)) i [.lst (ns.map D.int)] [] = .ok (.d (.ref 1)) (pot cells m 0 []) ∧ cells.length ≤ 63 := by
  obtain ⟨cells, m, b, lc⟩ := mk_pot (runF cs fds k) cs ns hn
  refine ⟨cells, m, ?_, lc⟩
  have r : runF cs fds (k + 1) i [.lst (ns.map D.int)] [] = .ok (.d (.ref 1)) (pot cells m 0 []) := by
    rw [run_rt (r := .d (.ref 1)) (h' := pot cells m 0 []) e (by rw [ep, eN]; exact ⟨rfl, by decide⟩) (by rw [eb, eN]; exact b), ez]
    rfl
  unfold callD
  cases lowAll 0 [.lst (ns.map D.int)] with
  | true => rw [r]; rfl
  | false => exact r
theorem one_call {i : Nat} {fd fo : FD} (e : fds[i]? = some fd) (eb : fd.body = bOne) (ez : fd.fz = true) (ep : fd.ps.length = 2) (eN : fd.N.length = 2)
    (e2 : fds[22]? = some fo) (eb2 : fo.body = bOf) (ez2 : fo.fz = true) (ep2 : fo.ps.length = 2) (eN2 : fo.N.length = 4)
    (cells : List Int) (m c : Int) (rest : Hh) (x : D) (ds : List D) (hc : cells.length ≤ 63)
    (hv : ∀ cells m c, viewS (pot cells m c rest) (.d x) = some ds) (h1 : 1 ≤ ds.length) (h2 : ds.length < 18446744073709551616)
    (hf : ∀ d, d ∈ ds → ∀ n h, fin n true (.d d) h = .ok (.d d) (h.take n)) :
    ∃ z cells' c', callD (runF cs fds (k + 2)) i [.ref 1, x] (pot cells m c rest) = .ok (.d z) (pot cells' m c' rest) ∧ z ∈ ds ∧ cells'.length ≤ 63 := by
  obtain ⟨z, cells', c', b, z0, z1, lc⟩ := of_call (cs := cs) (fds := fds) (k := k) e2 eb2 ez2 ep2 eN2 cells m c rest ds.length (by omega) (by omega) hc
  obtain ⟨d, hd, md⟩ := atI_nat z0 z1
  refine ⟨d, cells', c', ?_, md, lc⟩
  have bl : biD .len [.d x] (pot cells m c rest) = some (.d (.int ds.length)) := by
    show bLen [.d x] _ = _
    unfold bLen seq1
    simp only [hv]
  have bx : ixD (.d x) (.d (.int z)) (pot cells' m c' rest) = some d := by
    unfold ixD
    simp only [hv, hd]
  have body : dSs (runF cs fds (k + 1)) cs bOne [some (.ref 1), some x] (pot cells m c rest) = .ok (.rt (.d d)) (pot cells' m c' rest) := by
    have al : allO ([0, 1].map fun i => ([R.d (.ref 1), R.d (.int ds.length)] ++ ([] : List R))[i]?) = some [R.d (.ref 1), R.d (.int ds.length)] := rfl
    simp only [bOne, dSs, dS, dE, dEs, kSeq, kRet, kIx, kCall, kBi, kV, kNil, kCons, ok_bind, bl, ofO_s, List.getElem?_cons_succ, List.getElem?_cons_zero]
    rw [al]
    simp only [List.map_cons, List.map_nil, toD_d, b, ok_bind, bx, dOut_s]
  rw [callD_ref]
  rw [run_rt (r := .d d) (h' := pot cells' m c' rest) e (by rw [ep, eN]; exact ⟨rfl, by decide⟩) (by rw [eb, eN]; exact body), ez, hf d md]
  show Out.ok _ ((pot cells' m c' rest).take (pot cells m c rest).length) = _
  rw [show (pot cells m c rest).length = (pot cells' m c' rest).length from by simp [pot], List.take_length]
end
end MP
end

section
set_option Elab.async false
set_option linter.all false
set_option maxRecDepth 100000
set_option maxHeartbeats 4000000
namespace MP
open PySem
/-! ## the same run, over bodies that are turned to functions beforehand -/
abbrev QD := FD × (Cl → DenS)
def runQ (qs : List QD) : Nat → Cl
  | 0, _, _, _ => .no
  | k + 1, f, ds, h => match qs[f]? with
    | none => .no
    | some (fd, q) => if ds.length = fd.ps.length ∧ fd.ps.length ≤ fd.N.length then
        match q (runQ qs k) (ds.map some ++ List.replicate (fd.N.length - ds.length) none) h with
        | .ok (.nx _) h' => fin h.length fd.fz (.d .non) h'
        | .ok (.rt r) h' => fin h.length fd.fz r h'
        | .er e h' => .er e h'
        | .no => .no
      else .no
def QOk (cs : List D) : List QD → Prop
  | [] => True
  | p :: r => (∀ cl, dSs cl cs p.1.body = p.2 cl) ∧ QOk cs r
theorem QOk.at {cs : List D} : ∀ {qs : List QD} {i : Nat} {p : QD}, QOk cs qs → qs[i]? = some p → ∀ cl, dSs cl cs p.1.body = p.2 cl
  | [], i, p, _, e => by simp at e
  | q :: r, 0, p, h, e => by
    simp only [List.getElem?_cons_zero, Option.some.injEq] at e
    exact e ▸ h.1
  | q :: r, i + 1, p, h, e => by
    simp only [List.getElem?_cons_succ] at e
    exact QOk.at h.2 e
theorem runQ_eq {cs : List D} {qs : List QD} (ok : QOk cs qs) : ∀ k, runF cs (qs.map (·.1)) k = runQ qs k
  | 0 => rfl
  | k + 1 => by
    funext f ds h
    have e : (qs.map (·.1))[f]? = (qs[f]?).map (·.1) := List.getElem?_map
    show (match (qs.map (·.1))[f]? with
      | none => Out.no
      | some fd => if ds.length = fd.ps.length ∧ fd.ps.length ≤ fd.N.length then
          match dSs (runF cs (qs.map (·.1)) k) cs fd.body (ds.map some ++ List.replicate (fd.N.length - ds.length) none) h with
          | .ok (.nx _) h' => fin h.length fd.fz (.d .non) h'
          | .ok (.rt r) h' => fin h.length fd.fz r h'
          | .er e h' => .er e h'
          | .no => .no
        else .no) = (match qs[f]? with
      | none => Out.no
      | some (fd, q) => if ds.length = fd.ps.length ∧ fd.ps.length ≤ fd.N.length then
          match q (runQ qs k) (ds.map some ++ List.replicate (fd.N.length - ds.length) none) h with
          | .ok (.nx _) h' => fin h.length fd.fz (.d .non) h'
          | .ok (.rt r) h' => fin h.length fd.fz r h'
          | .er e h' => .er e h'
          | .no => .no
        else .no)
    rw [e]
    cases hq : qs[f]? with
    | none => rfl
    | some p =>
      have b := ok.at hq (runQ qs k)
      obtain ⟨fd, q⟩ := p
      show (if _ then (match dSs (runF cs (qs.map (fun p : QD => p.1)) k) cs fd.body _ h with
          | .ok (.nx _) h' => fin h.length fd.fz (.d .non) h'
          | .ok (.rt r) h' => fin h.length fd.fz r h'
          | .er e h' => .er e h'
          | .no => .no) else _) = _
      rw [runQ_eq ok k, b]
end MP
end

section
set_option Elab.async false
set_option linter.all false
set_option maxRecDepth 100000
set_option maxHeartbeats 4000000
namespace MP
open PySem
/-! ## a loop by its states, turn by turn -/
abbrev Turn := D × En × Hh
def Chain (step : D → En → Hh → Out Fl) : En → Hh → List Turn → Prop
  | _, _, [] => True
  | en, h, (d, en', h') :: r => step d en h = .ok (.nx en') h' ∧ Chain step en' h' r
def lastT : En → Hh → List Turn → En × Hh
  | en, h, [] => (en, h)
  | _, _, (_, en', h') :: r => lastT en' h' r
theorem for_chain {step : D → En → Hh → Out Fl} : ∀ (l : List Turn) (n : Nat) (en : En) (h : Hh), Chain step en h l → l.length < n → forLoop step n (.st (l.map (·.1))) en h = .ok (.nx (lastT en h l).1) (lastT en h l).2
  | [], 0, en, h, _, l => absurd l (by simp)
  | [], n + 1, en, h, _, _ => rfl
  | t :: r, 0, en, h, _, l => absurd l (by simp)
  | (d, en', h') :: r, n + 1, en, h, c, l => by
    have e : step d en h = .ok (.nx en') h' := c.1
    show forLoop step (n + 1) (.st (d :: r.map (·.1))) en h = _
    unfold forLoop
    simp only [next, e]
    exact for_chain r n en' h' c.2 (by simp only [List.length_cons] at l; omega)
def dropS : Ss → Nat → Ss
  | r, 0 => r
  | .nil, _ + 1 => .nil
  | .cons _ r, n + 1 => dropS r n
def takeS : Ss → Nat → Ss
  | _, 0 => .nil
  | .nil, _ + 1 => .nil
  | .cons s r, n + 1 => .cons s (takeS r n)
theorem take_drop (cl : Cl) (cs : List D) : ∀ (n : Nat) (b : Ss) (en en' : En) (h h' : Hh), dSs cl cs (takeS b n) en h = .ok (.nx en') h' → dSs cl cs b en h = dSs cl cs (dropS b n) en' h'
  | 0, b, en, en', h, h', e => by
    simp only [takeS, dSs, kPass] at e
    cases e
    simp only [dropS]
  | n + 1, .nil, en, en', h, h', e => by
    simp only [takeS, dSs, kPass] at e
    cases e
    simp only [dropS]
  | n + 1, .cons s r, en, en', h, h', e => by
    simp only [takeS, dSs] at e
    simp only [dropS, dSs]
    unfold kSeq at e ⊢
    split at e
    · rename_i en1 h1 e1
      exact take_drop cl cs n r en1 en' h1 h' e
    · cases e
    · cases e
    · cases e
theorem callD_cl {cl : Cl} {f : Nat} {ds : List D} {r : R} (h : Hh) (l : lowAll 0 ds = true) (e : cl f ds [] = .ok r []) : callD cl f ds h = .ok r h := by
  unfold callD
  rw [l, e]
theorem al1 {α : Type} (a : α) : allO [some a] = some [a] := rfl
theorem al2 {α : Type} (a b : α) : allO [some a, some b] = some [a, b] := rfl
end MP
end

section
set_option Elab.async false
set_option maxRecDepth 100000
set_option maxHeartbeats 0
namespace K99
open MP PySem
def c_MAX_LISTED : D := (.int 500)
def c_WORDS : D := (.tup [(.str ⟨#[114, 111, 119, 115]⟩), (.str ⟨#[108, 105, 110, 101, 115]⟩), (.str ⟨#[101, 118, 101, 110]⟩), (.str ⟨#[98, 114, 111, 107, 101, 110]⟩)])
def c_ROWS : D := (.tup [(.tup [(.int 1)]), (.tup [(.int 1)]), (.tup [(.int 1), (.int 1), (.int 1)]), (.tup [(.int 1), (.int 14), (.int 87), (.int 148), (.int 87), (.int 14), (.int 1)]), (.tup [(.int 1), (.int 103), (.int 4306), (.int 63110), (.int 388615), (.int 1115068), (.int 1575669), (.int 1115068), (.int 388615), (.int 63110), (.int 4306), (.int 103), (.int 1)])])
def cs : List D := [c_MAX_LISTED, c_WORDS, c_ROWS]
def b_line_sums : Ss := (.cons (.asg (.tp (.cons (.nm 3) (.cons (.nm 4) .nil))) (.tup (.cons (.bi .len (.cons (.v 0) .nil)) (.cons (.bi .lrng1 (.cons (.bi .len (.cons (.v 0) .nil)) .nil)) .nil)))) (.cons (.asg (.nm 1) (.bi .tup (.cons (.lc (.bi .sum (.cons (.v 7) .nil)) (.nm 7) (.e (.v 0)) .nil [7]) .nil))) (.cons (.asg (.nm 2) (.bi .tup (.cons (.lc (.bi .sum (.cons (.lc (.ix (.v 7) (.v 8)) (.nm 7) (.e (.v 0)) .nil [7]) .nil)) (.nm 8) (.e (.v 4)) .nil [8]) .nil))) (.cons (.asg (.tp (.cons (.nm 5) (.cons (.nm 6) .nil))) (.tup (.cons (.bi .sum (.cons (.lc (.ix (.ix (.v 0) (.v 9)) (.v 9)) (.nm 9) (.e (.v 4)) .nil [9]) .nil)) (.cons (.bi .sum (.cons (.lc (.ix (.ix (.v 0) (.v 9)) (.bin .Sub (.bin .Sub (.v 3) (.c (.int 1))) (.v 9))) (.nm 9) (.e (.v 4)) .nil [9]) .nil)) .nil)))) (.cons (.ret (.tup (.cons (.v 1) (.cons (.v 2) (.cons (.tup (.cons (.v 5) (.cons (.v 6) .nil))) .nil))))) .nil)))))
def f_line_sums : FD := { name := ⟨#[108, 105, 110, 101, 95, 115, 117, 109, 115]⟩, ps := [⟨#[115, 113, 117, 97, 114, 101]⟩], N := [⟨#[115, 113, 117, 97, 114, 101]⟩, ⟨#[114, 111, 119, 115]⟩, ⟨#[99, 111, 108, 117, 109, 110, 115]⟩, ⟨#[110]⟩, ⟨#[112, 108, 97, 99, 101, 115]⟩, ⟨#[102, 97, 108, 108]⟩, ⟨#[114, 105, 115, 101]⟩, ⟨#[114, 111, 119]⟩, ⟨#[106]⟩, ⟨#[105]⟩], body := b_line_sums, fz := true }
def b_broken_sums : Ss := (.cons (.asg (.tp (.cons (.nm 3) (.cons (.nm 4) .nil))) (.tup (.cons (.bi .len (.cons (.v 0) .nil)) (.cons (.bi .lrng1 (.cons (.bi .len (.cons (.v 0) .nil)) .nil)) .nil)))) (.cons (.asg (.nm 1) (.bi .tup (.cons (.lc (.bi .sum (.cons (.lc (.ix (.ix (.v 0) (.v 6)) (.bin .Mod (.bin .Add (.v 6) (.v 5)) (.v 3))) (.nm 6) (.e (.v 4)) .nil [6]) .nil)) (.nm 5) (.e (.v 4)) .nil [5]) .nil))) (.cons (.asg (.nm 2) (.bi .tup (.cons (.lc (.bi .sum (.cons (.lc (.ix (.ix (.v 0) (.v 6)) (.bin .Mod (.bin .Sub (.v 5) (.v 6)) (.v 3))) (.nm 6) (.e (.v 4)) .nil [6]) .nil)) (.nm 5) (.e (.v 4)) .nil [5]) .nil))) (.cons (.ret (.tup (.cons (.v 1) (.cons (.v 2) .nil)))) .nil))))
def f_broken_sums : FD := { name := ⟨#[98, 114, 111, 107, 101, 110, 95, 115, 117, 109, 115]⟩, ps := [⟨#[115, 113, 117, 97, 114, 101]⟩], N := [⟨#[115, 113, 117, 97, 114, 101]⟩, ⟨#[102, 97, 108, 108, 115]⟩, ⟨#[114, 105, 115, 101, 115]⟩, ⟨#[110]⟩, ⟨#[112, 108, 97, 99, 101, 115]⟩, ⟨#[107]⟩, ⟨#[105]⟩], body := b_broken_sums, fz := true }
def b_is_even_square : Ss := (.cons (.asg (.tp (.cons (.nm 1) (.cons (.nm 2) (.cons (.nm 3) .nil)))) (.call 0 (.cons (.v 0) .nil) .nil [0])) (.cons (.ret (.cmp .Eq (.bi .lenset (.cons (.bin .Add (.bin .Add (.v 1) (.v 2)) (.v 3)) .nil)) (.c (.int 1)))) .nil))
def f_is_even_square : FD := { name := ⟨#[105, 115, 95, 101, 118, 101, 110, 95, 115, 113, 117, 97, 114, 101]⟩, ps := [⟨#[115, 113, 117, 97, 114, 101]⟩], N := [⟨#[115, 113, 117, 97, 114, 101]⟩, ⟨#[114, 111, 119, 115]⟩, ⟨#[99, 111, 108, 117, 109, 110, 115]⟩, ⟨#[115, 108, 97, 110, 116, 115]⟩], body := b_is_even_square, fz := true }
def b_is_broken_even : Ss := (.cons (.asg (.tp (.cons (.nm 1) (.cons (.nm 2) (.cons (.nm 3) .nil)))) (.call 0 (.cons (.v 0) .nil) .nil [0])) (.cons (.asg (.tp (.cons (.nm 4) (.cons (.nm 5) .nil))) (.call 1 (.cons (.v 0) .nil) .nil [0])) (.cons (.ret (.cmp .Eq (.bi .lenset (.cons (.bin .Add (.bin .Add (.bin .Add (.bin .Add (.v 1) (.v 2)) (.v 3)) (.v 4)) (.v 5)) .nil)) (.c (.int 1)))) .nil)))
def f_is_broken_even : FD := { name := ⟨#[105, 115, 95, 98, 114, 111, 107, 101, 110, 95, 101, 118, 101, 110]⟩, ps := [⟨#[115, 113, 117, 97, 114, 101]⟩], N := [⟨#[115, 113, 117, 97, 114, 101]⟩, ⟨#[114, 111, 119, 115]⟩, ⟨#[99, 111, 108, 117, 109, 110, 115]⟩, ⟨#[115, 108, 97, 110, 116, 115]⟩, ⟨#[102, 97, 108, 108, 115]⟩, ⟨#[114, 105, 115, 101, 115]⟩], body := b_is_broken_even, fz := true }
def b_three_square : Ss := (.cons (.ret (.tup (.cons (.tup (.cons (.bin .Sub (.v 0) (.v 1)) (.cons (.bin .Add (.bin .Add (.v 0) (.v 1)) (.v 2)) (.cons (.bin .Sub (.v 0) (.v 2)) .nil)))) (.cons (.tup (.cons (.bin .Sub (.bin .Add (.v 0) (.v 1)) (.v 2)) (.cons (.v 0) (.cons (.bin .Add (.bin .Sub (.v 0) (.v 1)) (.v 2)) .nil)))) (.cons (.tup (.cons (.bin .Add (.v 0) (.v 2)) (.cons (.bin .Sub (.bin .Sub (.v 0) (.v 1)) (.v 2)) (.cons (.bin .Add (.v 0) (.v 1)) .nil)))) .nil))))) .nil)
def f_three_square : FD := { name := ⟨#[116, 104, 114, 101, 101, 95, 115, 113, 117, 97, 114, 101]⟩, ps := [⟨#[101]⟩, ⟨#[97]⟩, ⟨#[98]⟩], N := [⟨#[101]⟩, ⟨#[97]⟩, ⟨#[98]⟩], body := b_three_square, fz := true }
def b_three_number : Ss := (.cons (.ite (.cmp .NotEq (.bin .Mod (.v 0) (.c (.int 3))) (.c (.int 0))) (.cons (.ret (.c (.int 0))) .nil) .nil) (.cons (.asg (.nm 1) (.bin .FloorDiv (.v 0) (.c (.int 3)))) (.cons (.ret (.bin .Add (.bin .Add (.bin .Mult (.bin .Mult (.c (.int 2)) (.v 1)) (.v 1)) (.bin .Mult (.c (.int 2)) (.v 1))) (.c (.int 1)))) .nil)))
def f_three_number : FD := { name := ⟨#[116, 104, 114, 101, 101, 95, 110, 117, 109, 98, 101, 114]⟩, ps := [⟨#[115]⟩], N := [⟨#[115]⟩, ⟨#[101]⟩], body := b_three_number, fz := true }
def b_threes_listed : Ss := (.cons (.ite (.cmp .NotEq (.bin .Mod (.v 0) (.c (.int 3))) (.c (.int 0))) (.cons (.ret (.tup .nil)) .nil) .nil) (.cons (.asg (.tp (.cons (.nm 2) (.cons (.nm 3) .nil))) (.tup (.cons (.bin .FloorDiv (.v 0) (.c (.int 3))) (.cons (.al (.lst .nil)) .nil)))) (.cons (.for (.nm 1) (.rg2 (.neg (.v 2)) (.bin .Add (.v 2) (.c (.int 1)))) (.cons (.asg (.nm 4) (.bin .Sub (.v 2) (.bi .abs (.cons (.v 1) .nil)))) (.cons (.exp (.meth .extend (.v 3) (.cons (.lc (.call 4 (.cons (.v 2) (.cons (.v 1) (.cons (.v 5) .nil))) .nil [0, 1, 2]) (.nm 5) (.rg2 (.neg (.v 4)) (.bin .Add (.v 4) (.c (.int 1)))) .nil [5]) .nil))) .nil))) (.cons (.ret (.bi .tup (.cons (.bi .srt (.cons (.v 3) .nil)) .nil))) .nil))))
def f_threes_listed : FD := { name := ⟨#[116, 104, 114, 101, 101, 115, 95, 108, 105, 115, 116, 101, 100]⟩, ps := [⟨#[115]⟩], N := [⟨#[115]⟩, ⟨#[97]⟩, ⟨#[101]⟩, ⟨#[102, 111, 117, 110, 100]⟩, ⟨#[108, 101, 102, 116]⟩, ⟨#[98]⟩], body := b_threes_listed, fz := true }
def b_is_integer : Ss := (.cons (.ret (.and (.bi .isInt (.cons (.v 0) .nil)) (.not (.bi .isBool (.cons (.v 0) .nil))))) .nil)
def f_is_integer : FD := { name := ⟨#[105, 115, 95, 105, 110, 116, 101, 103, 101, 114]⟩, ps := [⟨#[118, 97, 108, 117, 101]⟩], N := [⟨#[118, 97, 108, 117, 101]⟩], body := b_is_integer, fz := true }
def b_kinds_of : Ss := (.cons (.asg (.tp (.cons (.nm 2) (.cons (.nm 3) (.cons (.nm 4) .nil)))) (.call 0 (.cons (.v 0) .nil) .nil [0])) (.cons (.asg (.nm 1) (.tup (.cons (.cmp .Eq (.bi .lenset (.cons (.v 2) .nil)) (.c (.int 1))) (.cons (.cmp .Eq (.bi .lenset (.cons (.bin .Add (.v 2) (.v 3)) .nil)) (.c (.int 1))) (.cons (.call 2 (.cons (.v 0) .nil) .nil [0]) (.cons (.call 3 (.cons (.v 0) .nil) .nil [0]) .nil)))))) (.cons (.ret (.bi .tup (.cons (.bi .lzip (.cons (.g 1) (.cons (.v 1) .nil))) .nil))) .nil)))
def f_kinds_of : FD := { name := ⟨#[107, 105, 110, 100, 115, 95, 111, 102]⟩, ps := [⟨#[115, 113, 117, 97, 114, 101]⟩], N := [⟨#[115, 113, 117, 97, 114, 101]⟩, ⟨#[116, 111, 108, 100]⟩, ⟨#[114, 111, 119, 115]⟩, ⟨#[99, 111, 108, 117, 109, 110, 115]⟩, ⟨#[115, 108, 97, 110, 116, 115]⟩], body := b_kinds_of, fz := true }
def b_rows_number : Ss := (.cons (.asg (.nm 1) (.bin .FloorDiv (.bin .Mult (.bin .Add (.v 0) (.c (.int 1))) (.bin .Add (.v 0) (.c (.int 2)))) (.c (.int 2)))) (.cons (.ret (.bin .Mult (.bin .Mult (.v 1) (.v 1)) (.v 1))) .nil))
def f_rows_number : FD := { name := ⟨#[114, 111, 119, 115, 95, 110, 117, 109, 98, 101, 114]⟩, ps := [⟨#[114]⟩], N := [⟨#[114]⟩, ⟨#[111, 110, 101]⟩], body := b_rows_number, fz := true }
def b_four_of : Ss := (.cons (.ret (.bin .FloorDiv (.bin .Mult (.bin .Mult (.bin .Mult (.v 0) (.bin .Sub (.v 0) (.c (.int 1)))) (.bin .Sub (.v 0) (.c (.int 2)))) (.bin .Sub (.v 0) (.c (.int 3)))) (.c (.int 24)))) .nil)
def f_four_of : FD := { name := ⟨#[102, 111, 117, 114, 95, 111, 102]⟩, ps := [⟨#[109]⟩], N := [⟨#[109]⟩], body := b_four_of, fz := true }
def b_three_ladder : Ss := (.cons (.asg (.nm 1) (.bin .Add (.bin .Add (.call 10 (.cons (.bin .Add (.v 0) (.c (.int 4))) .nil) .nil [0]) (.call 10 (.cons (.bin .Add (.v 0) (.c (.int 3))) .nil) .nil [0])) (.call 10 (.cons (.bin .Add (.v 0) (.c (.int 2))) .nil) .nil [0]))) (.cons (.ret (.bi .tup (.cons (.bi .lzip (.cons (.g 1) (.cons (.tup (.cons (.call 9 (.cons (.v 0) .nil) .nil [0]) (.cons (.v 1) (.cons (.call 5 (.cons (.v 0) .nil) .nil [0]) (.cons (.bi .int (.cons (.cmp .Eq (.bin .Mod (.v 0) (.c (.int 3))) (.c (.int 0))) .nil)) .nil))))) .nil))) .nil))) .nil))
def f_three_ladder : FD := { name := ⟨#[116, 104, 114, 101, 101, 95, 108, 97, 100, 100, 101, 114]⟩, ps := [⟨#[114]⟩], N := [⟨#[114]⟩, ⟨#[108, 105, 110, 101, 115]⟩], body := b_three_ladder, fz := true }
def b_has_form : Ss := (.cons (.ite (.or (.not (.bi .isTup (.cons (.v 0) .nil))) (.cmp .NotEq (.bi .len (.cons (.v 0) .nil)) (.bi .len (.cons (.g 1) .nil)))) (.cons (.ret (.c (.bl false))) .nil) .nil) (.cons (.for (.tp (.cons (.nm 1) (.cons (.nm 2) .nil))) (.zp (.v 0) (.g 1)) (.cons (.ite (.or (.not (.bi .isTup (.cons (.v 1) .nil))) (.or (.cmp .NotEq (.bi .len (.cons (.v 1) .nil)) (.c (.int 2))) (.or (.not (.bi .isStr (.cons (.ix (.v 1) (.c (.int 0))) .nil))) (.cmp .NotEq (.ix (.v 1) (.c (.int 0))) (.v 2))))) (.cons (.ret (.c (.bl false))) .nil) .nil) (.cons (.ite (.not (.call 7 (.cons (.ix (.v 1) (.c (.int 1))) .nil) .nil [0])) (.cons (.ret (.c (.bl false))) .nil) .nil) .nil))) (.cons (.ret (.c (.bl true))) .nil)))
def f_has_form : FD := { name := ⟨#[104, 97, 115, 95, 102, 111, 114, 109]⟩, ps := [⟨#[118, 97, 108, 117, 101]⟩], N := [⟨#[118, 97, 108, 117, 101]⟩, ⟨#[112, 97, 105, 114]⟩, ⟨#[119, 111, 114, 100]⟩], body := b_has_form, fz := true }
def b_three_ladder_error : Ss := (.cons (.ite (.not (.call 12 (.cons (.v 1) .nil) .nil [0])) (.cons (.ret (.c (.str ⟨#[102, 111, 114, 109]⟩))) .nil) .nil) (.cons (.for (.tp (.cons (.tp (.cons (.nm 2) (.cons (.nm 3) .nil))) (.cons (.tp (.cons (.nm 4) (.cons (.nm 5) .nil))) .nil))) (.zp (.v 1) (.call 11 (.cons (.v 0) .nil) .nil [0])) (.cons (.ite (.cmp .NotEq (.v 3) (.v 5)) (.cons (.ret (.tup (.cons (.v 2) (.cons (.v 5) .nil)))) .nil) .nil) .nil)) (.cons (.ret (.c .non)) .nil)))
def f_three_ladder_error : FD := { name := ⟨#[116, 104, 114, 101, 101, 95, 108, 97, 100, 100, 101, 114, 95, 101, 114, 114, 111, 114]⟩, ps := [⟨#[114]⟩, ⟨#[118, 97, 108, 117, 101]⟩], N := [⟨#[114]⟩, ⟨#[118, 97, 108, 117, 101]⟩, ⟨#[119, 111, 114, 100]⟩, ⟨#[102, 111, 117, 110, 100]⟩, ⟨#[110, 97, 109, 101]⟩, ⟨#[100, 117, 101]⟩], body := b_three_ladder_error, fz := true }
def b_choose_any : Ss := (.cons (.asg (.tp (.cons (.nm 3) (.cons (.nm 4) .nil))) (.tup (.cons (.c (.int 1)) (.cons (.c (.int 1)) .nil)))) (.cons (.for (.nm 2) (.rg1 (.v 1)) (.cons (.asg (.tp (.cons (.nm 3) (.cons (.nm 4) .nil))) (.tup (.cons (.bin .Mult (.v 3) (.bin .Sub (.v 0) (.v 2))) (.cons (.bin .Mult (.v 4) (.bin .Add (.v 2) (.c (.int 1)))) .nil)))) .nil)) (.cons (.ret (.bin .FloorDiv (.v 3) (.v 4))) .nil)))
def f_choose_any : FD := { name := ⟨#[99, 104, 111, 111, 115, 101, 95, 97, 110, 121]⟩, ps := [⟨#[109]⟩, ⟨#[100]⟩], N := [⟨#[109]⟩, ⟨#[100]⟩, ⟨#[115, 116, 101, 112]⟩, ⟨#[97, 98, 111, 118, 101]⟩, ⟨#[98, 101, 108, 111, 119]⟩], body := b_choose_any, fz := true }
def b_sheets_number : Ss := (.cons (.asg (.nm 2) (.bin .Mult (.bin .Sub (.v 0) (.c (.int 1))) (.bin .Sub (.v 0) (.c (.int 1))))) (.cons (.ret (.bi .sum (.cons (.lc (.bin .Mult (.v 4) (.call 14 (.cons (.bin .Sub (.bin .Add (.v 1) (.v 2)) (.v 3)) (.cons (.v 2) .nil)) .nil [0, 1])) (.tp (.cons (.nm 3) (.cons (.nm 4) .nil))) (.en (.ix (.g 2) (.bin .Sub (.v 0) (.c (.int 1))))) .nil [3, 4]) .nil))) .nil))
def f_sheets_number : FD := { name := ⟨#[115, 104, 101, 101, 116, 115, 95, 110, 117, 109, 98, 101, 114]⟩, ps := [⟨#[110]⟩, ⟨#[114]⟩], N := [⟨#[110]⟩, ⟨#[114]⟩, ⟨#[100]⟩, ⟨#[107]⟩, ⟨#[111, 119, 110]⟩], body := b_sheets_number, fz := true }
def b_rows_within : Ss := (.cons (.asg (.nm 2) (.lst (.cons (.tup (.cons (.tup .nil) (.cons (.v 1) .nil))) .nil))) (.cons (.for (.tp (.cons (.nm 3) (.cons (.nm 4) .nil))) (.en (.v 0)) (.cons (.asg (.tp (.cons (.nm 5) (.cons (.nm 6) .nil))) (.tup (.cons (.bi .sum (.cons (.sl true false (.v 0) (.bin .Add (.v 3) (.c (.int 1))) .none) .nil)) (.cons (.al (.lst .nil)) .nil)))) (.cons (.for (.tp (.cons (.nm 7) (.cons (.nm 8) .nil))) (.e (.v 2)) (.cons (.exp (.meth .extend (.v 6) (.cons (.lc (.tup (.cons (.bin .Add (.v 7) (.tup (.cons (.v 9) .nil))) (.cons (.bin .Sub (.v 8) (.v 9)) .nil))) (.nm 9) (.rg2 (.bi .mx2 (.cons (.c (.int 0)) (.cons (.bin .Sub (.v 8) (.v 5)) .nil))) (.bin .Add (.bi .mn2 (.cons (.v 4) (.cons (.v 8) .nil))) (.c (.int 1)))) .nil [9]) .nil))) .nil)) (.cons (.asg (.nm 2) (.v 6)) .nil)))) (.cons (.ret (.lc (.v 7) (.tp (.cons (.nm 7) (.cons (.nm 8) .nil))) (.e (.v 2)) .nil [7, 8])) .nil)))
def f_rows_within : FD := { name := ⟨#[114, 111, 119, 115, 95, 119, 105, 116, 104, 105, 110]⟩, ps := [⟨#[109, 111, 115, 116]⟩, ⟨#[116, 111, 116, 97, 108]⟩], N := [⟨#[109, 111, 115, 116]⟩, ⟨#[116, 111, 116, 97, 108]⟩, ⟨#[102, 111, 117, 110, 100]⟩, ⟨#[112, 108, 97, 99, 101]⟩, ⟨#[108, 105, 109, 105, 116]⟩, ⟨#[114, 101, 115, 116]⟩, ⟨#[108, 111, 110, 103, 101, 114]⟩, ⟨#[114, 111, 119]⟩, ⟨#[108, 101, 102, 116]⟩, ⟨#[105, 116, 101, 109]⟩], body := b_rows_within, fz := true }
def b_less_row : Ss := (.cons (.ret (.bi .tup (.cons (.lc (.bin .Sub (.v 2) (.v 3)) (.tp (.cons (.nm 2) (.cons (.nm 3) .nil))) (.zp (.v 0) (.v 1)) .nil [2, 3]) .nil))) .nil)
def f_less_row : FD := { name := ⟨#[108, 101, 115, 115, 95, 114, 111, 119]⟩, ps := [⟨#[109, 111, 115, 116]⟩, ⟨#[114, 111, 119]⟩], N := [⟨#[109, 111, 115, 116]⟩, ⟨#[114, 111, 119]⟩, ⟨#[108, 105, 109, 105, 116]⟩, ⟨#[105, 116, 101, 109]⟩], body := b_less_row, fz := true }
def b_sheets_listed : Ss := (.cons (.ite (.cmp .Gt (.call 15 (.cons (.v 0) (.cons (.v 1) .nil)) .nil [0, 1]) (.g 0)) (.cons .raise .nil) .nil) (.cons (.asg (.nm 2) (.lst (.cons (.tup (.cons (.tup .nil) (.cons (.bin .Mult (.tup (.cons (.v 1) .nil)) (.v 0)) .nil))) .nil))) (.cons (.for (.nm 3) (.rg1 (.v 0)) (.cons (.asg (.nm 4) (.al (.lst .nil))) (.cons (.for (.tp (.cons (.nm 5) (.cons (.nm 6) .nil))) (.e (.v 2)) (.cons (.exp (.meth .extend (.v 4) (.cons (.lc (.tup (.cons (.bin .Add (.v 5) (.tup (.cons (.v 7) .nil))) (.cons (.call 17 (.cons (.v 6) (.cons (.v 7) .nil)) .nil [0, 1]) .nil))) (.nm 7) (.e (.call 16 (.cons (.v 6) (.cons (.v 1) .nil)) .nil [0, 1])) .nil [7]) .nil))) .nil)) (.cons (.asg (.nm 2) (.v 4)) .nil)))) (.cons (.ret (.bi .tup (.cons (.lc (.v 5) (.tp (.cons (.nm 5) (.cons (.nm 6) .nil))) (.e (.v 2)) .nil [5, 6]) .nil))) .nil))))
def f_sheets_listed : FD := { name := ⟨#[115, 104, 101, 101, 116, 115, 95, 108, 105, 115, 116, 101, 100]⟩, ps := [⟨#[110]⟩, ⟨#[114]⟩], N := [⟨#[110]⟩, ⟨#[114]⟩, ⟨#[102, 111, 117, 110, 100]⟩, ⟨#[115, 116, 101, 112]⟩, ⟨#[108, 111, 110, 103, 101, 114]⟩, ⟨#[114, 111, 119, 115]⟩, ⟨#[109, 111, 115, 116]⟩, ⟨#[114, 111, 119]⟩], body := b_sheets_listed, fz := true }
def b_column_sums : Ss := (.cons (.ret (.lc (.bi .sum (.cons (.lc (.ix (.v 2) (.v 1)) (.nm 2) (.e (.v 0)) .nil [2]) .nil)) (.nm 1) (.rg1 (.bi .len (.cons (.v 0) .nil))) .nil [1])) .nil)
def f_column_sums : FD := { name := ⟨#[99, 111, 108, 117, 109, 110, 95, 115, 117, 109, 115]⟩, ps := [⟨#[115, 104, 101, 101, 116]⟩], N := [⟨#[115, 104, 101, 101, 116]⟩, ⟨#[106]⟩, ⟨#[114, 111, 119]⟩], body := b_column_sums, fz := true }
def b_unlike_line : Ss := (.cons (.asg (.nm 1) (.bi .sum (.cons (.ix (.v 0) (.c (.int 0))) .nil))) (.cons (.for (.tp (.cons (.nm 2) (.cons (.nm 3) .nil))) (.e (.tup (.cons (.tup (.cons (.c (.str ⟨#[114, 111, 119]⟩)) (.cons (.lc (.bi .sum (.cons (.v 6) .nil)) (.nm 6) (.e (.v 0)) .nil [6]) .nil))) (.cons (.tup (.cons (.c (.str ⟨#[99, 111, 108, 117, 109, 110]⟩)) (.cons (.call 19 (.cons (.v 0) .nil) .nil [0]) .nil))) .nil)))) (.cons (.for (.tp (.cons (.nm 4) (.cons (.nm 5) .nil))) (.en (.v 3)) (.cons (.ite (.cmp .NotEq (.v 5) (.v 1)) (.cons (.ret (.tup (.cons (.v 2) (.cons (.v 4) (.cons (.v 5) .nil))))) .nil) .nil) .nil)) .nil)) (.cons (.ret (.c .non)) .nil)))
def f_unlike_line : FD := { name := ⟨#[117, 110, 108, 105, 107, 101, 95, 108, 105, 110, 101]⟩, ps := [⟨#[115, 104, 101, 101, 116]⟩], N := [⟨#[115, 104, 101, 101, 116]⟩, ⟨#[100, 117, 101]⟩, ⟨#[119, 111, 114, 100]⟩, ⟨#[115, 117, 109, 115]⟩, ⟨#[107]⟩, ⟨#[111, 119, 110]⟩, ⟨#[114, 111, 119]⟩], body := b_unlike_line, fz := true }
def b__law_pot : Ss := (.cons (.asg (.tp (.cons (.nm 2) (.cons (.nm 3) .nil))) (.tup (.cons (.lc (.bin .Add (.bin .Mult (.c (.int 2)) (.bi .abs (.cons (.v 1) .nil))) (.bi .int (.cons (.cmp .Lt (.v 1) (.c (.int 0))) .nil))) (.nm 1) (.e (.sl false true (.v 0) .none (.c (.int 63)))) .nil [1]) (.cons (.bin .Add (.c (.int 19591)) (.bin .Mult (.c (.int 71)) (.bi .len (.cons (.v 0) .nil)))) .nil)))) (.cons (.for (.nm 1) (.e (.v 2)) (.cons (.asg (.nm 3) (.bin .Mod (.bin .Add (.bin .Add (.bin .Mult (.v 3) (.c (.int 69069))) (.v 1)) (.c (.int 11))) (.c (.int 4294967291)))) .nil)) (.cons (.ret (.al (.lst (.cons (.al (.lc (.v 1) (.nm 1) (.e (.v 2)) (.cons (.cmp .Gt (.v 1) (.bin .Pow (.c (.int 10)) (.c (.int 12)))) .nil) [1])) (.cons (.v 3) (.cons (.c (.int 0)) .nil)))))) .nil)))
def f__law_pot : FD := { name := ⟨#[95, 108, 97, 119, 95, 112, 111, 116]⟩, ps := [⟨#[115, 99, 114, 105, 112, 116]⟩], N := [⟨#[115, 99, 114, 105, 112, 116]⟩, ⟨#[99, 101, 108, 108]⟩, ⟨#[99, 101, 108, 108, 115]⟩, ⟨#[109, 105, 120, 101, 100]⟩], body := b__law_pot, fz := false }
def b__law_of : Ss := (.cons (.ite (.cmp .Lt (.v 1) (.c (.int 2))) (.cons (.ret (.c (.int 0))) .nil) .nil) (.cons (.ite (.cmp .NotEq (.ix (.v 0) (.c (.int 0))) (.lst .nil)) (.cons (.asg (.nm 3) (.meth .pop (.ix (.v 0) (.c (.int 0))) .nil)) (.cons (.ite (.cmp .GtE (.v 3) (.v 1)) (.cons (.exp (.meth .append (.ix (.v 0) (.c (.int 0))) (.cons (.bin .FloorDiv (.v 3) (.v 1)) .nil))) .nil) .nil) (.cons (.ret (.bin .Mod (.v 3) (.v 1))) .nil))) .nil) (.cons (.asg (.sb (.v 0) (.c (.int 2))) (.bin .Add (.ix (.v 0) (.c (.int 2))) (.c (.int 1)))) (.cons (.asg (.nm 2) (.bin .Mod (.bin .Add (.ix (.v 0) (.c (.int 1))) (.bin .Mult (.ix (.v 0) (.c (.int 2))) (.c (.int 2654435761)))) (.c (.int 4294967279)))) (.cons (.asg (.nm 2) (.bin .Mod (.bin .Add (.bin .Add (.bin .Mult (.v 2) (.v 2)) (.bin .Mult (.ix (.v 0) (.c (.int 2))) (.c (.int 40503)))) (.c (.int 5))) (.c (.int 4294967231)))) (.cons (.asg (.nm 2) (.bin .Mod (.bin .Add (.bin .Mult (.v 2) (.v 2)) (.ix (.v 0) (.c (.int 1)))) (.c (.int 4294967291)))) (.cons (.ret (.bin .Mod (.bin .FloorDiv (.v 2) (.c (.int 256))) (.v 1))) .nil)))))))
def f__law_of : FD := { name := ⟨#[95, 108, 97, 119, 95, 111, 102]⟩, ps := [⟨#[112, 111, 116]⟩, ⟨#[109, 97, 110, 121]⟩], N := [⟨#[112, 111, 116]⟩, ⟨#[109, 97, 110, 121]⟩, ⟨#[110, 117, 109, 98, 101, 114]⟩, ⟨#[99, 101, 108, 108]⟩], body := b__law_of, fz := true }
def b__law_one : Ss := (.cons (.ret (.ix (.v 1) (.call 22 (.cons (.v 0) (.cons (.bi .len (.cons (.v 1) .nil)) .nil)) .nil [0, 1]))) .nil)
def f__law_one : FD := { name := ⟨#[95, 108, 97, 119, 95, 111, 110, 101]⟩, ps := [⟨#[112, 111, 116]⟩, ⟨#[105, 116, 101, 109, 115]⟩], N := [⟨#[112, 111, 116]⟩, ⟨#[105, 116, 101, 109, 115]⟩], body := b__law_one, fz := true }
def b__law_flat : Ss := (.cons (.asg (.nm 1) (.al (.lst .nil))) (.cons (.for (.nm 2) (.e (.v 0)) (.cons (.exp (.meth .extend (.v 1) (.cons (.v 2) .nil))) .nil)) (.cons (.ret (.v 1)) .nil)))
def f__law_flat : FD := { name := ⟨#[95, 108, 97, 119, 95, 102, 108, 97, 116]⟩, ps := [⟨#[114, 111, 119, 115]⟩], N := [⟨#[114, 111, 119, 115]⟩, ⟨#[102, 111, 117, 110, 100]⟩, ⟨#[114, 111, 119]⟩], body := b__law_flat, fz := true }
def b__law_lines : Ss := (.cons (.asg (.nm 1) (.lc (.lc (.tup (.cons (.v 3) (.cons (.v 4) .nil))) (.nm 4) (.rg1 (.v 0)) .nil [4]) (.nm 3) (.rg1 (.v 0)) .nil [3])) (.cons (.asg (.nm 2) (.lc (.lc (.tup (.cons (.v 3) (.cons (.v 4) .nil))) (.nm 3) (.rg1 (.v 0)) .nil [3]) (.nm 4) (.rg1 (.v 0)) .nil [4])) (.cons (.ret (.bin .Add (.bin .Add (.v 1) (.v 2)) (.lst (.cons (.lc (.tup (.cons (.v 3) (.cons (.v 3) .nil))) (.nm 3) (.rg1 (.v 0)) .nil [3]) (.cons (.lc (.tup (.cons (.v 3) (.cons (.bin .Sub (.bin .Sub (.v 0) (.c (.int 1))) (.v 3)) .nil))) (.nm 3) (.rg1 (.v 0)) .nil [3]) .nil))))) .nil)))
def f__law_lines : FD := { name := ⟨#[95, 108, 97, 119, 95, 108, 105, 110, 101, 115]⟩, ps := [⟨#[110]⟩], N := [⟨#[110]⟩, ⟨#[114, 111, 119, 115]⟩, ⟨#[99, 111, 108, 117, 109, 110, 115]⟩, ⟨#[105]⟩, ⟨#[106]⟩], body := b__law_lines, fz := true }
def b__law_line_sums : Ss := (.cons (.ret (.lc (.bi .sum (.cons (.lc (.ix (.ix (.v 0) (.v 2)) (.v 3)) (.tp (.cons (.nm 2) (.cons (.nm 3) .nil))) (.e (.v 1)) .nil [2, 3]) .nil)) (.nm 1) (.e (.call 25 (.cons (.bi .len (.cons (.v 0) .nil)) .nil) .nil [0])) .nil [1])) .nil)
def f__law_line_sums : FD := { name := ⟨#[95, 108, 97, 119, 95, 108, 105, 110, 101, 95, 115, 117, 109, 115]⟩, ps := [⟨#[115, 113, 117, 97, 114, 101]⟩], N := [⟨#[115, 113, 117, 97, 114, 101]⟩, ⟨#[108, 105, 110, 101]⟩, ⟨#[105]⟩, ⟨#[106]⟩], body := b__law_line_sums, fz := true }
def b__law_is_even : Ss := (.cons (.ret (.cmp .Eq (.bi .lenset (.cons (.call 26 (.cons (.v 0) .nil) .nil [0]) .nil)) (.c (.int 1)))) .nil)
def f__law_is_even : FD := { name := ⟨#[95, 108, 97, 119, 95, 105, 115, 95, 101, 118, 101, 110]⟩, ps := [⟨#[115, 113, 117, 97, 114, 101]⟩], N := [⟨#[115, 113, 117, 97, 114, 101]⟩], body := b__law_is_even, fz := true }
def b__law_broken_lines : Ss := (.cons (.asg (.nm 1) (.lc (.lc (.tup (.cons (.v 3) (.cons (.bin .Mod (.bi .int (.cons (.bin .Add (.v 3) (.v 2)) .nil)) (.v 0)) .nil))) (.nm 3) (.rg1 (.v 0)) .nil [3]) (.nm 2) (.rg1 (.v 0)) .nil [2])) (.cons (.ret (.bin .Add (.v 1) (.lc (.lc (.tup (.cons (.v 3) (.cons (.bin .Mod (.bi .int (.cons (.bin .Sub (.v 2) (.v 3)) .nil)) (.v 0)) .nil))) (.nm 3) (.rg1 (.v 0)) .nil [3]) (.nm 2) (.rg1 (.v 0)) .nil [2]))) .nil))
def f__law_broken_lines : FD := { name := ⟨#[95, 108, 97, 119, 95, 98, 114, 111, 107, 101, 110, 95, 108, 105, 110, 101, 115]⟩, ps := [⟨#[110]⟩], N := [⟨#[110]⟩, ⟨#[102, 97, 108, 108, 115]⟩, ⟨#[107]⟩, ⟨#[105]⟩], body := b__law_broken_lines, fz := true }
def b__law_is_broken : Ss := (.cons (.asg (.nm 1) (.bin .Add (.call 25 (.cons (.bi .len (.cons (.v 0) .nil)) .nil) .nil [0]) (.call 28 (.cons (.bi .len (.cons (.v 0) .nil)) .nil) .nil [0]))) (.cons (.ret (.cmp .Eq (.bi .lenset (.cons (.lc (.bi .sum (.cons (.lc (.ix (.ix (.v 0) (.v 3)) (.v 4)) (.tp (.cons (.nm 3) (.cons (.nm 4) .nil))) (.e (.v 2)) .nil [3, 4]) .nil)) (.nm 2) (.e (.v 1)) .nil [2]) .nil)) (.c (.int 1)))) .nil))
def f__law_is_broken : FD := { name := ⟨#[95, 108, 97, 119, 95, 105, 115, 95, 98, 114, 111, 107, 101, 110]⟩, ps := [⟨#[115, 113, 117, 97, 114, 101]⟩], N := [⟨#[115, 113, 117, 97, 114, 101]⟩, ⟨#[108, 105, 110, 101, 115]⟩, ⟨#[108, 105, 110, 101]⟩, ⟨#[105]⟩, ⟨#[106]⟩], body := b__law_is_broken, fz := true }
def b__law_raised : Ss := (.cons (.asg (.nm 2) (.c (.int 1))) (.cons (.for (.nm 3) (.rg1 (.v 1)) (.cons (.asg (.nm 2) (.bin .Mult (.v 2) (.v 0))) .nil)) (.cons (.ret (.v 2)) .nil)))
def f__law_raised : FD := { name := ⟨#[95, 108, 97, 119, 95, 114, 97, 105, 115, 101, 100]⟩, ps := [⟨#[110, 117, 109, 98, 101, 114]⟩, ⟨#[111, 102, 116, 101, 110]⟩], N := [⟨#[110, 117, 109, 98, 101, 114]⟩, ⟨#[111, 102, 116, 101, 110]⟩, ⟨#[102, 111, 117, 110, 100]⟩, ⟨#[116, 117, 114, 110]⟩], body := b__law_raised, fz := true }
def b_law : Ss := (.cons (.asg (.nm 1) (.call 21 (.cons (.v 0) .nil) .nil [0])) (.cons (.asg (.nm 2) (.call 22 (.cons (.v 1) (.cons (.ite (.cmp .Eq (.call 22 (.cons (.v 1) (.cons (.c (.int 3)) .nil)) .nil [0, 1]) (.c (.int 0))) (.c (.int 6)) (.c (.int 4))) .nil)) .nil [0, 1])) (.cons (.asg (.nm 3) (.call 24 (.cons (.lc (.lc (.tup (.cons (.v 20) (.cons (.v 23) (.cons (.bin .Sub (.bin .Sub (.v 2) (.v 20)) (.v 23)) .nil)))) (.nm 23) (.rg1 (.bin .Add (.bin .Sub (.v 2) (.v 20)) (.c (.int 1)))) .nil [23]) (.nm 20) (.rg1 (.bin .Add (.v 2) (.c (.int 1)))) .nil [20]) .nil) .nil [0])) (.cons (.asg (.tp (.cons (.nm 10) (.cons (.nm 11) (.cons (.nm 12) .nil)))) (.tup (.cons (.al (.lst .nil)) (.cons (.al (.lst .nil)) (.cons (.c (.int 0)) .nil))))) (.cons (.for (.nm 4) (.e (.v 3)) (.cons (.for (.nm 13) (.e (.v 3)) (.cons (.asg (.nm 18) (.bi .tup (.cons (.lc (.bin .Sub (.bin .Sub (.v 2) (.v 20)) (.v 23)) (.tp (.cons (.nm 20) (.cons (.nm 23) .nil))) (.zp (.v 4) (.v 13)) .nil [20, 23]) .nil))) (.cons (.ite (.cmp .GtE (.bi .mn (.cons (.v 18) .nil)) (.c (.int 0))) (.cons (.exp (.meth .append (.v 10) (.cons (.tup (.cons (.v 4) (.cons (.v 13) (.cons (.v 18) .nil)))) .nil))) (.cons (.exp (.meth .extend (.v 11) (.cons (.ite (.call 27 (.cons (.tup (.cons (.v 4) (.cons (.v 13) (.cons (.v 18) .nil)))) .nil) .nil [0]) (.lst (.cons (.tup (.cons (.v 4) (.cons (.v 13) (.cons (.v 18) .nil)))) .nil)) (.lst .nil)) .nil))) (.cons (.asg (.nm 12) (.bin .Add (.v 12) (.bi .int (.cons (.call 29 (.cons (.tup (.cons (.v 4) (.cons (.v 13) (.cons (.v 18) .nil)))) .nil) .nil [0]) .nil)))) .nil))) .nil) .nil))) .nil)) (.cons (.asg (.nm 5) (.tup (.cons (.tup (.cons (.c (.str ⟨#[114, 111, 119, 115]⟩)) (.cons (.call 30 (.cons (.bi .len (.cons (.v 3) .nil)) (.cons (.c (.int 3)) .nil)) .nil [0, 1]) .nil))) (.cons (.tup (.cons (.c (.str ⟨#[108, 105, 110, 101, 115]⟩)) (.cons (.bi .len (.cons (.v 10) .nil)) .nil))) (.cons (.tup (.cons (.c (.str ⟨#[101, 118, 101, 110]⟩)) (.cons (.bi .len (.cons (.v 11) .nil)) .nil))) (.cons (.tup (.cons (.c (.str ⟨#[98, 114, 111, 107, 101, 110]⟩)) (.cons (.v 12) .nil))) .nil)))))) (.cons (.ite (.cmp .NotEq (.bi .repr (.cons (.lst (.cons (.call 11 (.cons (.v 2) .nil) .nil [0]) (.cons (.call 11 .nil (.cons (.v 2) .nil) [0]) (.cons (.call 9 (.cons (.v 2) .nil) .nil [0]) .nil)))) .nil)) (.bi .repr (.cons (.lst (.cons (.v 5) (.cons (.v 5) (.cons (.ix (.ix (.v 5) (.c (.int 0))) (.c (.int 1))) .nil)))) .nil))) (.cons (.ret (.c (.bl false))) .nil) .nil) (.cons (.ite (.or (.cmp .NotEq (.call 15 (.cons (.c (.int 3)) (.cons (.v 2) .nil)) .nil [0, 1]) (.bi .len (.cons (.v 10) .nil))) (.cmp .NotEq (.call 5 (.cons (.v 2) .nil) .nil [0]) (.bi .len (.cons (.v 11) .nil)))) (.cons (.ret (.c (.bl false))) .nil) .nil) (.cons (.ite (.or (.cmp .NotEq (.call 18 (.cons (.c (.int 3)) (.cons (.v 2) .nil)) .nil [0, 1]) (.bi .tup (.cons (.bi .srt (.cons (.v 10) .nil)) .nil))) (.cmp .NotEq (.call 6 (.cons (.v 2) .nil) .nil [0]) (.bi .tup (.cons (.bi .srt (.cons (.v 11) .nil)) .nil)))) (.cons (.ret (.c (.bl false))) .nil) .nil) (.cons (.for (.nm 6) (.e (.lc (.call 23 (.cons (.v 1) (.cons (.v 10) .nil)) .nil [0, 1]) (.nm 19) (.rg1 (.c (.int 6))) .nil [19])) (.cons (.asg (.nm 14) (.cmp .In (.v 6) (.v 11))) (.cons (.asg (.nm 15) (.tup (.cons (.tup (.cons (.c (.str ⟨#[114, 111, 119, 115]⟩)) (.cons (.c (.bl true)) .nil))) (.cons (.tup (.cons (.c (.str ⟨#[108, 105, 110, 101, 115]⟩)) (.cons (.c (.bl true)) .nil))) (.cons (.tup (.cons (.c (.str ⟨#[101, 118, 101, 110]⟩)) (.cons (.v 14) .nil))) (.cons (.tup (.cons (.c (.str ⟨#[98, 114, 111, 107, 101, 110]⟩)) (.cons (.call 29 (.cons (.v 6) .nil) .nil [0]) .nil))) .nil)))))) (.cons (.ite (.or (.cmp .NotEq (.bi .repr (.cons (.lst (.cons (.call 8 (.cons (.v 6) .nil) .nil [0]) (.cons (.call 8 .nil (.cons (.v 6) .nil) [0]) .nil))) .nil)) (.bi .repr (.cons (.lst (.cons (.v 15) (.cons (.v 15) .nil))) .nil))) (.cmp .IsNot (.call 20 (.cons (.v 6) .nil) .nil [0]) (.c .non))) (.cons (.ret (.c (.bl false))) .nil) .nil) (.cons (.asg (.nm 16) (.tup (.cons (.ix (.v 6) (.c (.int 0))) (.cons (.rev (.ix (.v 6) (.c (.int 1)))) (.cons (.ix (.v 6) (.c (.int 2))) .nil))))) (.cons (.asg (.nm 17) (.cmp .Is (.call 20 (.cons (.v 16) .nil) .nil [0]) (.c .non))) (.cons (.ite (.cmp .NotEq (.bi .repr (.cons (.sl false true (.call 8 (.cons (.v 16) .nil) .nil [0]) .none (.c (.int 2))) .nil)) (.bi .repr (.cons (.tup (.cons (.tup (.cons (.c (.str ⟨#[114, 111, 119, 115]⟩)) (.cons (.c (.bl true)) .nil))) (.cons (.tup (.cons (.c (.str ⟨#[108, 105, 110, 101, 115]⟩)) (.cons (.v 17) .nil))) .nil))) .nil))) (.cons (.ret (.c (.bl false))) .nil) .nil) .nil))))))) (.cons (.asg (.nm 7) (.bin .Mult (.call 22 (.cons (.v 1) (.cons (.call 23 (.cons (.v 1) (.cons (.lst (.cons (.c (.int 40)) (.cons (.bin .Pow (.c (.int 10)) (.c (.int 6))) .nil))) .nil)) .nil [0, 1]) .nil)) .nil [0, 1]) (.call 23 (.cons (.v 1) (.cons (.lst (.cons (.c (.int 1)) (.cons (.c (.int 1)) (.cons (.bin .Pow (.c (.int 10)) (.c (.int 12))) .nil)))) .nil)) .nil [0, 1]))) (.cons (.asg (.nm 8) (.call 11 (.cons (.v 7) .nil) .nil [0])) (.cons (.asg (.nm 9) (.lc (.v 22) (.tp (.cons (.nm 21) (.cons (.nm 22) .nil))) (.e (.v 8)) .nil [21, 22])) (.cons (.ite (.or (.cmp .NotEq (.v 9) (.rev (.bi .srt (.cons (.v 9) .nil)))) (.or (.cmp .NotEq (.ix (.v 9) (.c (.int 0))) (.call 9 .nil (.cons (.v 7) .nil) [0])) (.cmp .NotEq (.ix (.v 9) (.c (.int 2))) (.call 5 .nil (.cons (.v 7) .nil) [0])))) (.cons (.ret (.c (.bl false))) .nil) .nil) (.cons (.ite (.and (.cmp .LtE (.v 7) (.bin .Pow (.c (.int 10)) (.c (.int 6)))) (.cmp .NotEq (.ix (.v 9) (.c (.int 1))) (.call 15 (.cons (.c (.int 3)) (.cons (.v 7) .nil)) .nil [0, 1]))) (.cons (.ret (.c (.bl false))) .nil) .nil) (.cons (.ite (.or (.cmp .IsNot (.call 13 (.cons (.v 7) (.cons (.v 8) .nil)) .nil [0, 1]) (.c .non)) (.cmp .IsNot (.call 13 .nil (.cons (.v 8) (.cons (.v 7) .nil)) [1, 0]) (.c .non))) (.cons (.ret (.c (.bl false))) .nil) .nil) (.cons (.ite (.and (.cmp .NotEq (.v 2) (.v 7)) (.cmp .NotEq (.bi .repr (.cons (.call 13 (.cons (.v 2) (.cons (.v 8) .nil)) .nil [0, 1]) .nil)) (.bi .repr (.cons (.ix (.v 5) (.c (.int 0))) .nil)))) (.cons (.ret (.c (.bl false))) .nil) .nil) (.cons (.ret (.cmp .Is (.call 13 (.cons (.v 2) (.cons (.v 5) .nil)) .nil [0, 1]) (.c .non))) .nil))))))))))))))))))
def f_law : FD := { name := ⟨#[108, 97, 119]⟩, ps := [⟨#[115, 99, 114, 105, 112, 116]⟩], N := [⟨#[115, 99, 114, 105, 112, 116]⟩, ⟨#[112, 111, 116]⟩, ⟨#[114]⟩, ⟨#[114, 111, 119, 115]⟩, ⟨#[111, 110, 101]⟩, ⟨#[108, 97, 100, 100, 101, 114]⟩, ⟨#[115, 104, 101, 101, 116]⟩, ⟨#[115]⟩, ⟨#[111, 119, 110]⟩, ⟨#[110, 117, 109, 98, 101, 114, 115]⟩, ⟨#[115, 104, 101, 101, 116, 115]⟩, ⟨#[101, 118, 101, 110]⟩, ⟨#[98, 114, 111, 107, 101, 110]⟩, ⟨#[111, 116, 104, 101, 114]⟩, ⟨#[105, 115, 95, 101, 118, 101, 110]⟩, ⟨#[100, 117, 101]⟩, ⟨#[115, 112, 111, 105, 108, 116]⟩, ⟨#[108, 105, 110, 101, 115]⟩, ⟨#[108, 97, 115, 116]⟩, ⟨#[97, 103, 97, 105, 110]⟩, ⟨#[97]⟩, ⟨#[119, 111, 114, 100]⟩, ⟨#[110, 117, 109, 98, 101, 114]⟩, ⟨#[98]⟩], body := b_law, fz := true }
def fds : List FD := [f_line_sums, f_broken_sums, f_is_even_square, f_is_broken_even, f_three_square, f_three_number, f_threes_listed, f_is_integer, f_kinds_of, f_rows_number, f_four_of, f_three_ladder, f_has_form, f_three_ladder_error, f_choose_any, f_sheets_number, f_rows_within, f_less_row, f_sheets_listed, f_column_sums, f_unlike_line, f__law_pot, f__law_of, f__law_one, f__law_flat, f__law_lines, f__law_line_sums, f__law_is_even, f__law_broken_lines, f__law_is_broken, f__law_raised, f_law]
def cn : List Str := [⟨#[77, 65, 88, 95, 76, 73, 83, 84, 69, 68]⟩, ⟨#[87, 79, 82, 68, 83]⟩, ⟨#[82, 79, 87, 83]⟩]
def topS (i : Nat) : Stmt := PySem.Challenge.pw_equalsums_k99_whole_ladders_and_lists.main.body.getD i (.Pass ⟨0, 0, 0, 0⟩)
def sts : List Stmt := [topS 2, topS 3, topS 4, topS 5, topS 7, topS 8, topS 9, topS 14, topS 17, topS 18, topS 19, topS 20, topS 21, topS 22, topS 25, topS 26, topS 27, topS 28, topS 29, topS 31, topS 32, topS 34, topS 35, topS 36, topS 37, topS 38, topS 39, topS 40, topS 41, topS 42, topS 43, topS 44]
end K99
end

section
set_option Elab.async false
set_option maxRecDepth 100000
set_option maxHeartbeats 0
namespace K99
open MP PySem
theorem chk : (fds.zip sts).all (fun p => chkF cn fds p.1 p.2) = true := by decide +kernel
end K99
end

section
set_option Elab.async false
set_option maxRecDepth 100000
set_option maxHeartbeats 0
open MP PySem
namespace MP
def rw3 (a b c : Int) : D := .tup [.int a, .int b, .int c]
def sq (a b c d e f g h i : Int) : D := .tup [.tup [.int a, .int b, .int c], .tup [.int d, .int e, .int f], .tup [.int g, .int h, .int i]]
end MP
namespace K99
def mid : Ss := takeS (dropS b_law 2) 7
end K99
namespace MP
def nthS : Ss → Nat → S
  | .nil, _ => .pass
  | .cons s _, 0 => s
  | .cons _ r, n + 1 => nthS r n
def bodyF : S → Ss
  | .for _ _ b => b
  | _ => .nil
end MP
namespace K99
def bodyS : Ss := bodyF (nthS b_law 9)
def stepL : D → En → Hh → Out Fl := fun d en h => (kNm 6 en (.d d) h).bind fun en h => dSs (runF cs fds 11) cs bodyS en h
def due (e b : Bool) : D := .tup [.tup [.str ⟨#[114, 111, 119, 115]⟩, .bl true], .tup [.str ⟨#[108, 105, 110, 101, 115]⟩, .bl true], .tup [.str ⟨#[101, 118, 101, 110]⟩, .bl e], .tup [.str ⟨#[98, 114, 111, 107, 101, 110]⟩, .bl b]]
end K99
end

section
set_option Elab.async false
set_option linter.all false
set_option maxRecDepth 100000
set_option maxHeartbeats 0
namespace K99
open MP PySem
def q_line_sums (cl : Cl) : DenS := (kSeq (kAsg (kTp (kTcons (kNm 3) (kTcons (kNm 4) kTnil))) (kTup (kCons (kBi .len (kCons (kV 0) kNil)) (kCons (kBi .lrng1 (kCons (kBi .len (kCons (kV 0) kNil)) kNil)) kNil)))) (kSeq (kAsg (kNm 1) (kBi .tup (kCons (kLc (kBi .sum (kCons (kV 7) kNil)) (kNm 7) (kIe (kV 0)) kYes [7]) kNil))) (kSeq (kAsg (kNm 2) (kBi .tup (kCons (kLc (kBi .sum (kCons (kLc (kIx (kV 7) (kV 8)) (kNm 7) (kIe (kV 0)) kYes [7]) kNil)) (kNm 8) (kIe (kV 4)) kYes [8]) kNil))) (kSeq (kAsg (kTp (kTcons (kNm 5) (kTcons (kNm 6) kTnil))) (kTup (kCons (kBi .sum (kCons (kLc (kIx (kIx (kV 0) (kV 9)) (kV 9)) (kNm 9) (kIe (kV 4)) kYes [9]) kNil)) (kCons (kBi .sum (kCons (kLc (kIx (kIx (kV 0) (kV 9)) (kBin .Sub (kBin .Sub (kV 3) (kC (.int 1))) (kV 9))) (kNm 9) (kIe (kV 4)) kYes [9]) kNil)) kNil)))) (kSeq (kRet (kTup (kCons (kV 1) (kCons (kV 2) (kCons (kTup (kCons (kV 5) (kCons (kV 6) kNil))) kNil))))) kPass)))))
def q_broken_sums (cl : Cl) : DenS := (kSeq (kAsg (kTp (kTcons (kNm 3) (kTcons (kNm 4) kTnil))) (kTup (kCons (kBi .len (kCons (kV 0) kNil)) (kCons (kBi .lrng1 (kCons (kBi .len (kCons (kV 0) kNil)) kNil)) kNil)))) (kSeq (kAsg (kNm 1) (kBi .tup (kCons (kLc (kBi .sum (kCons (kLc (kIx (kIx (kV 0) (kV 6)) (kBin .Mod (kBin .Add (kV 6) (kV 5)) (kV 3))) (kNm 6) (kIe (kV 4)) kYes [6]) kNil)) (kNm 5) (kIe (kV 4)) kYes [5]) kNil))) (kSeq (kAsg (kNm 2) (kBi .tup (kCons (kLc (kBi .sum (kCons (kLc (kIx (kIx (kV 0) (kV 6)) (kBin .Mod (kBin .Sub (kV 5) (kV 6)) (kV 3))) (kNm 6) (kIe (kV 4)) kYes [6]) kNil)) (kNm 5) (kIe (kV 4)) kYes [5]) kNil))) (kSeq (kRet (kTup (kCons (kV 1) (kCons (kV 2) kNil)))) kPass))))
def q_is_even_square (cl : Cl) : DenS := (kSeq (kAsg (kTp (kTcons (kNm 1) (kTcons (kNm 2) (kTcons (kNm 3) kTnil)))) (kCall cl 0 (kCons (kV 0) kNil) kNil [0])) (kSeq (kRet (kCmp .Eq (kBi .lenset (kCons (kBin .Add (kBin .Add (kV 1) (kV 2)) (kV 3)) kNil)) (kC (.int 1)))) kPass))
def q_is_broken_even (cl : Cl) : DenS := (kSeq (kAsg (kTp (kTcons (kNm 1) (kTcons (kNm 2) (kTcons (kNm 3) kTnil)))) (kCall cl 0 (kCons (kV 0) kNil) kNil [0])) (kSeq (kAsg (kTp (kTcons (kNm 4) (kTcons (kNm 5) kTnil))) (kCall cl 1 (kCons (kV 0) kNil) kNil [0])) (kSeq (kRet (kCmp .Eq (kBi .lenset (kCons (kBin .Add (kBin .Add (kBin .Add (kBin .Add (kV 1) (kV 2)) (kV 3)) (kV 4)) (kV 5)) kNil)) (kC (.int 1)))) kPass)))
def q_three_square (cl : Cl) : DenS := (kSeq (kRet (kTup (kCons (kTup (kCons (kBin .Sub (kV 0) (kV 1)) (kCons (kBin .Add (kBin .Add (kV 0) (kV 1)) (kV 2)) (kCons (kBin .Sub (kV 0) (kV 2)) kNil)))) (kCons (kTup (kCons (kBin .Sub (kBin .Add (kV 0) (kV 1)) (kV 2)) (kCons (kV 0) (kCons (kBin .Add (kBin .Sub (kV 0) (kV 1)) (kV 2)) kNil)))) (kCons (kTup (kCons (kBin .Add (kV 0) (kV 2)) (kCons (kBin .Sub (kBin .Sub (kV 0) (kV 1)) (kV 2)) (kCons (kBin .Add (kV 0) (kV 1)) kNil)))) kNil))))) kPass)
def q_three_number (cl : Cl) : DenS := (kSeq (kIteS (kCmp .NotEq (kBin .Mod (kV 0) (kC (.int 3))) (kC (.int 0))) (kSeq (kRet (kC (.int 0))) kPass) kPass) (kSeq (kAsg (kNm 1) (kBin .FloorDiv (kV 0) (kC (.int 3)))) (kSeq (kRet (kBin .Add (kBin .Add (kBin .Mult (kBin .Mult (kC (.int 2)) (kV 1)) (kV 1)) (kBin .Mult (kC (.int 2)) (kV 1))) (kC (.int 1)))) kPass)))
def q_threes_listed (cl : Cl) : DenS := (kSeq (kIteS (kCmp .NotEq (kBin .Mod (kV 0) (kC (.int 3))) (kC (.int 0))) (kSeq (kRet (kTup kNil)) kPass) kPass) (kSeq (kAsg (kTp (kTcons (kNm 2) (kTcons (kNm 3) kTnil))) (kTup (kCons (kBin .FloorDiv (kV 0) (kC (.int 3))) (kCons (kAl (kLst kNil)) kNil)))) (kSeq (kFor (kNm 1) (kRg2 (kNeg (kV 2)) (kBin .Add (kV 2) (kC (.int 1)))) (kSeq (kAsg (kNm 4) (kBin .Sub (kV 2) (kBi .abs (kCons (kV 1) kNil)))) (kSeq (kExp (kMeth .extend (kV 3) (kCons (kLc (kCall cl 4 (kCons (kV 2) (kCons (kV 1) (kCons (kV 5) kNil))) kNil [0, 1, 2]) (kNm 5) (kRg2 (kNeg (kV 4)) (kBin .Add (kV 4) (kC (.int 1)))) kYes [5]) kNil))) kPass))) (kSeq (kRet (kBi .tup (kCons (kBi .srt (kCons (kV 3) kNil)) kNil))) kPass))))
def q_is_integer (cl : Cl) : DenS := (kSeq (kRet (kAnd (kBi .isInt (kCons (kV 0) kNil)) (kNot (kBi .isBool (kCons (kV 0) kNil))))) kPass)
def q_kinds_of (cl : Cl) : DenS := (kSeq (kAsg (kTp (kTcons (kNm 2) (kTcons (kNm 3) (kTcons (kNm 4) kTnil)))) (kCall cl 0 (kCons (kV 0) kNil) kNil [0])) (kSeq (kAsg (kNm 1) (kTup (kCons (kCmp .Eq (kBi .lenset (kCons (kV 2) kNil)) (kC (.int 1))) (kCons (kCmp .Eq (kBi .lenset (kCons (kBin .Add (kV 2) (kV 3)) kNil)) (kC (.int 1))) (kCons (kCall cl 2 (kCons (kV 0) kNil) kNil [0]) (kCons (kCall cl 3 (kCons (kV 0) kNil) kNil [0]) kNil)))))) (kSeq (kRet (kBi .tup (kCons (kBi .lzip (kCons (kG cs 1) (kCons (kV 1) kNil))) kNil))) kPass)))
def q_rows_number (cl : Cl) : DenS := (kSeq (kAsg (kNm 1) (kBin .FloorDiv (kBin .Mult (kBin .Add (kV 0) (kC (.int 1))) (kBin .Add (kV 0) (kC (.int 2)))) (kC (.int 2)))) (kSeq (kRet (kBin .Mult (kBin .Mult (kV 1) (kV 1)) (kV 1))) kPass))
def q_four_of (cl : Cl) : DenS := (kSeq (kRet (kBin .FloorDiv (kBin .Mult (kBin .Mult (kBin .Mult (kV 0) (kBin .Sub (kV 0) (kC (.int 1)))) (kBin .Sub (kV 0) (kC (.int 2)))) (kBin .Sub (kV 0) (kC (.int 3)))) (kC (.int 24)))) kPass)
def q_three_ladder (cl : Cl) : DenS := (kSeq (kAsg (kNm 1) (kBin .Add (kBin .Add (kCall cl 10 (kCons (kBin .Add (kV 0) (kC (.int 4))) kNil) kNil [0]) (kCall cl 10 (kCons (kBin .Add (kV 0) (kC (.int 3))) kNil) kNil [0])) (kCall cl 10 (kCons (kBin .Add (kV 0) (kC (.int 2))) kNil) kNil [0]))) (kSeq (kRet (kBi .tup (kCons (kBi .lzip (kCons (kG cs 1) (kCons (kTup (kCons (kCall cl 9 (kCons (kV 0) kNil) kNil [0]) (kCons (kV 1) (kCons (kCall cl 5 (kCons (kV 0) kNil) kNil [0]) (kCons (kBi .int (kCons (kCmp .Eq (kBin .Mod (kV 0) (kC (.int 3))) (kC (.int 0))) kNil)) kNil))))) kNil))) kNil))) kPass))
def q_has_form (cl : Cl) : DenS := (kSeq (kIteS (kOr (kNot (kBi .isTup (kCons (kV 0) kNil))) (kCmp .NotEq (kBi .len (kCons (kV 0) kNil)) (kBi .len (kCons (kG cs 1) kNil)))) (kSeq (kRet (kC (.bl false))) kPass) kPass) (kSeq (kFor (kTp (kTcons (kNm 1) (kTcons (kNm 2) kTnil))) (kZp (kV 0) (kG cs 1)) (kSeq (kIteS (kOr (kNot (kBi .isTup (kCons (kV 1) kNil))) (kOr (kCmp .NotEq (kBi .len (kCons (kV 1) kNil)) (kC (.int 2))) (kOr (kNot (kBi .isStr (kCons (kIx (kV 1) (kC (.int 0))) kNil))) (kCmp .NotEq (kIx (kV 1) (kC (.int 0))) (kV 2))))) (kSeq (kRet (kC (.bl false))) kPass) kPass) (kSeq (kIteS (kNot (kCall cl 7 (kCons (kIx (kV 1) (kC (.int 1))) kNil) kNil [0])) (kSeq (kRet (kC (.bl false))) kPass) kPass) kPass))) (kSeq (kRet (kC (.bl true))) kPass)))
def q_three_ladder_error (cl : Cl) : DenS := (kSeq (kIteS (kNot (kCall cl 12 (kCons (kV 1) kNil) kNil [0])) (kSeq (kRet (kC (.str ⟨#[102, 111, 114, 109]⟩))) kPass) kPass) (kSeq (kFor (kTp (kTcons (kTp (kTcons (kNm 2) (kTcons (kNm 3) kTnil))) (kTcons (kTp (kTcons (kNm 4) (kTcons (kNm 5) kTnil))) kTnil))) (kZp (kV 1) (kCall cl 11 (kCons (kV 0) kNil) kNil [0])) (kSeq (kIteS (kCmp .NotEq (kV 3) (kV 5)) (kSeq (kRet (kTup (kCons (kV 2) (kCons (kV 5) kNil)))) kPass) kPass) kPass)) (kSeq (kRet (kC .non)) kPass)))
def q_choose_any (cl : Cl) : DenS := (kSeq (kAsg (kTp (kTcons (kNm 3) (kTcons (kNm 4) kTnil))) (kTup (kCons (kC (.int 1)) (kCons (kC (.int 1)) kNil)))) (kSeq (kFor (kNm 2) (kRg1 (kV 1)) (kSeq (kAsg (kTp (kTcons (kNm 3) (kTcons (kNm 4) kTnil))) (kTup (kCons (kBin .Mult (kV 3) (kBin .Sub (kV 0) (kV 2))) (kCons (kBin .Mult (kV 4) (kBin .Add (kV 2) (kC (.int 1)))) kNil)))) kPass)) (kSeq (kRet (kBin .FloorDiv (kV 3) (kV 4))) kPass)))
def q_sheets_number (cl : Cl) : DenS := (kSeq (kAsg (kNm 2) (kBin .Mult (kBin .Sub (kV 0) (kC (.int 1))) (kBin .Sub (kV 0) (kC (.int 1))))) (kSeq (kRet (kBi .sum (kCons (kLc (kBin .Mult (kV 4) (kCall cl 14 (kCons (kBin .Sub (kBin .Add (kV 1) (kV 2)) (kV 3)) (kCons (kV 2) kNil)) kNil [0, 1])) (kTp (kTcons (kNm 3) (kTcons (kNm 4) kTnil))) (kEn (kIx (kG cs 2) (kBin .Sub (kV 0) (kC (.int 1))))) kYes [3, 4]) kNil))) kPass))
def q_rows_within (cl : Cl) : DenS := (kSeq (kAsg (kNm 2) (kLst (kCons (kTup (kCons (kTup kNil) (kCons (kV 1) kNil))) kNil))) (kSeq (kFor (kTp (kTcons (kNm 3) (kTcons (kNm 4) kTnil))) (kEn (kV 0)) (kSeq (kAsg (kTp (kTcons (kNm 5) (kTcons (kNm 6) kTnil))) (kTup (kCons (kBi .sum (kCons (kSl true false (kV 0) (kBin .Add (kV 3) (kC (.int 1))) (kC .non)) kNil)) (kCons (kAl (kLst kNil)) kNil)))) (kSeq (kFor (kTp (kTcons (kNm 7) (kTcons (kNm 8) kTnil))) (kIe (kV 2)) (kSeq (kExp (kMeth .extend (kV 6) (kCons (kLc (kTup (kCons (kBin .Add (kV 7) (kTup (kCons (kV 9) kNil))) (kCons (kBin .Sub (kV 8) (kV 9)) kNil))) (kNm 9) (kRg2 (kBi .mx2 (kCons (kC (.int 0)) (kCons (kBin .Sub (kV 8) (kV 5)) kNil))) (kBin .Add (kBi .mn2 (kCons (kV 4) (kCons (kV 8) kNil))) (kC (.int 1)))) kYes [9]) kNil))) kPass)) (kSeq (kAsg (kNm 2) (kV 6)) kPass)))) (kSeq (kRet (kLc (kV 7) (kTp (kTcons (kNm 7) (kTcons (kNm 8) kTnil))) (kIe (kV 2)) kYes [7, 8])) kPass)))
def q_less_row (cl : Cl) : DenS := (kSeq (kRet (kBi .tup (kCons (kLc (kBin .Sub (kV 2) (kV 3)) (kTp (kTcons (kNm 2) (kTcons (kNm 3) kTnil))) (kZp (kV 0) (kV 1)) kYes [2, 3]) kNil))) kPass)
def q_sheets_listed (cl : Cl) : DenS := (kSeq (kIteS (kCmp .Gt (kCall cl 15 (kCons (kV 0) (kCons (kV 1) kNil)) kNil [0, 1]) (kG cs 0)) (kSeq kRaise kPass) kPass) (kSeq (kAsg (kNm 2) (kLst (kCons (kTup (kCons (kTup kNil) (kCons (kBin .Mult (kTup (kCons (kV 1) kNil)) (kV 0)) kNil))) kNil))) (kSeq (kFor (kNm 3) (kRg1 (kV 0)) (kSeq (kAsg (kNm 4) (kAl (kLst kNil))) (kSeq (kFor (kTp (kTcons (kNm 5) (kTcons (kNm 6) kTnil))) (kIe (kV 2)) (kSeq (kExp (kMeth .extend (kV 4) (kCons (kLc (kTup (kCons (kBin .Add (kV 5) (kTup (kCons (kV 7) kNil))) (kCons (kCall cl 17 (kCons (kV 6) (kCons (kV 7) kNil)) kNil [0, 1]) kNil))) (kNm 7) (kIe (kCall cl 16 (kCons (kV 6) (kCons (kV 1) kNil)) kNil [0, 1])) kYes [7]) kNil))) kPass)) (kSeq (kAsg (kNm 2) (kV 4)) kPass)))) (kSeq (kRet (kBi .tup (kCons (kLc (kV 5) (kTp (kTcons (kNm 5) (kTcons (kNm 6) kTnil))) (kIe (kV 2)) kYes [5, 6]) kNil))) kPass))))
def q_column_sums (cl : Cl) : DenS := (kSeq (kRet (kLc (kBi .sum (kCons (kLc (kIx (kV 2) (kV 1)) (kNm 2) (kIe (kV 0)) kYes [2]) kNil)) (kNm 1) (kRg1 (kBi .len (kCons (kV 0) kNil))) kYes [1])) kPass)
def q_unlike_line (cl : Cl) : DenS := (kSeq (kAsg (kNm 1) (kBi .sum (kCons (kIx (kV 0) (kC (.int 0))) kNil))) (kSeq (kFor (kTp (kTcons (kNm 2) (kTcons (kNm 3) kTnil))) (kIe (kTup (kCons (kTup (kCons (kC (.str ⟨#[114, 111, 119]⟩)) (kCons (kLc (kBi .sum (kCons (kV 6) kNil)) (kNm 6) (kIe (kV 0)) kYes [6]) kNil))) (kCons (kTup (kCons (kC (.str ⟨#[99, 111, 108, 117, 109, 110]⟩)) (kCons (kCall cl 19 (kCons (kV 0) kNil) kNil [0]) kNil))) kNil)))) (kSeq (kFor (kTp (kTcons (kNm 4) (kTcons (kNm 5) kTnil))) (kEn (kV 3)) (kSeq (kIteS (kCmp .NotEq (kV 5) (kV 1)) (kSeq (kRet (kTup (kCons (kV 2) (kCons (kV 4) (kCons (kV 5) kNil))))) kPass) kPass) kPass)) kPass)) (kSeq (kRet (kC .non)) kPass)))
def q__law_pot (cl : Cl) : DenS := (kSeq (kAsg (kTp (kTcons (kNm 2) (kTcons (kNm 3) kTnil))) (kTup (kCons (kLc (kBin .Add (kBin .Mult (kC (.int 2)) (kBi .abs (kCons (kV 1) kNil))) (kBi .int (kCons (kCmp .Lt (kV 1) (kC (.int 0))) kNil))) (kNm 1) (kIe (kSl false true (kV 0) (kC .non) (kC (.int 63)))) kYes [1]) (kCons (kBin .Add (kC (.int 19591)) (kBin .Mult (kC (.int 71)) (kBi .len (kCons (kV 0) kNil)))) kNil)))) (kSeq (kFor (kNm 1) (kIe (kV 2)) (kSeq (kAsg (kNm 3) (kBin .Mod (kBin .Add (kBin .Add (kBin .Mult (kV 3) (kC (.int 69069))) (kV 1)) (kC (.int 11))) (kC (.int 4294967291)))) kPass)) (kSeq (kRet (kAl (kLst (kCons (kAl (kLc (kV 1) (kNm 1) (kIe (kV 2)) (kIf (kCmp .Gt (kV 1) (kBin .Pow (kC (.int 10)) (kC (.int 12)))) kYes) [1])) (kCons (kV 3) (kCons (kC (.int 0)) kNil)))))) kPass)))
def q__law_of (cl : Cl) : DenS := (kSeq (kIteS (kCmp .Lt (kV 1) (kC (.int 2))) (kSeq (kRet (kC (.int 0))) kPass) kPass) (kSeq (kIteS (kCmp .NotEq (kIx (kV 0) (kC (.int 0))) (kLst kNil)) (kSeq (kAsg (kNm 3) (kMeth .pop (kIx (kV 0) (kC (.int 0))) kNil)) (kSeq (kIteS (kCmp .GtE (kV 3) (kV 1)) (kSeq (kExp (kMeth .append (kIx (kV 0) (kC (.int 0))) (kCons (kBin .FloorDiv (kV 3) (kV 1)) kNil))) kPass) kPass) (kSeq (kRet (kBin .Mod (kV 3) (kV 1))) kPass))) kPass) (kSeq (kAsg (kSb (kV 0) (kC (.int 2))) (kBin .Add (kIx (kV 0) (kC (.int 2))) (kC (.int 1)))) (kSeq (kAsg (kNm 2) (kBin .Mod (kBin .Add (kIx (kV 0) (kC (.int 1))) (kBin .Mult (kIx (kV 0) (kC (.int 2))) (kC (.int 2654435761)))) (kC (.int 4294967279)))) (kSeq (kAsg (kNm 2) (kBin .Mod (kBin .Add (kBin .Add (kBin .Mult (kV 2) (kV 2)) (kBin .Mult (kIx (kV 0) (kC (.int 2))) (kC (.int 40503)))) (kC (.int 5))) (kC (.int 4294967231)))) (kSeq (kAsg (kNm 2) (kBin .Mod (kBin .Add (kBin .Mult (kV 2) (kV 2)) (kIx (kV 0) (kC (.int 1)))) (kC (.int 4294967291)))) (kSeq (kRet (kBin .Mod (kBin .FloorDiv (kV 2) (kC (.int 256))) (kV 1))) kPass)))))))
def q__law_one (cl : Cl) : DenS := (kSeq (kRet (kIx (kV 1) (kCall cl 22 (kCons (kV 0) (kCons (kBi .len (kCons (kV 1) kNil)) kNil)) kNil [0, 1]))) kPass)
def q__law_flat (cl : Cl) : DenS := (kSeq (kAsg (kNm 1) (kAl (kLst kNil))) (kSeq (kFor (kNm 2) (kIe (kV 0)) (kSeq (kExp (kMeth .extend (kV 1) (kCons (kV 2) kNil))) kPass)) (kSeq (kRet (kV 1)) kPass)))
def q__law_lines (cl : Cl) : DenS := (kSeq (kAsg (kNm 1) (kLc (kLc (kTup (kCons (kV 3) (kCons (kV 4) kNil))) (kNm 4) (kRg1 (kV 0)) kYes [4]) (kNm 3) (kRg1 (kV 0)) kYes [3])) (kSeq (kAsg (kNm 2) (kLc (kLc (kTup (kCons (kV 3) (kCons (kV 4) kNil))) (kNm 3) (kRg1 (kV 0)) kYes [3]) (kNm 4) (kRg1 (kV 0)) kYes [4])) (kSeq (kRet (kBin .Add (kBin .Add (kV 1) (kV 2)) (kLst (kCons (kLc (kTup (kCons (kV 3) (kCons (kV 3) kNil))) (kNm 3) (kRg1 (kV 0)) kYes [3]) (kCons (kLc (kTup (kCons (kV 3) (kCons (kBin .Sub (kBin .Sub (kV 0) (kC (.int 1))) (kV 3)) kNil))) (kNm 3) (kRg1 (kV 0)) kYes [3]) kNil))))) kPass)))
def q__law_line_sums (cl : Cl) : DenS := (kSeq (kRet (kLc (kBi .sum (kCons (kLc (kIx (kIx (kV 0) (kV 2)) (kV 3)) (kTp (kTcons (kNm 2) (kTcons (kNm 3) kTnil))) (kIe (kV 1)) kYes [2, 3]) kNil)) (kNm 1) (kIe (kCall cl 25 (kCons (kBi .len (kCons (kV 0) kNil)) kNil) kNil [0])) kYes [1])) kPass)
def q__law_is_even (cl : Cl) : DenS := (kSeq (kRet (kCmp .Eq (kBi .lenset (kCons (kCall cl 26 (kCons (kV 0) kNil) kNil [0]) kNil)) (kC (.int 1)))) kPass)
def q__law_broken_lines (cl : Cl) : DenS := (kSeq (kAsg (kNm 1) (kLc (kLc (kTup (kCons (kV 3) (kCons (kBin .Mod (kBi .int (kCons (kBin .Add (kV 3) (kV 2)) kNil)) (kV 0)) kNil))) (kNm 3) (kRg1 (kV 0)) kYes [3]) (kNm 2) (kRg1 (kV 0)) kYes [2])) (kSeq (kRet (kBin .Add (kV 1) (kLc (kLc (kTup (kCons (kV 3) (kCons (kBin .Mod (kBi .int (kCons (kBin .Sub (kV 2) (kV 3)) kNil)) (kV 0)) kNil))) (kNm 3) (kRg1 (kV 0)) kYes [3]) (kNm 2) (kRg1 (kV 0)) kYes [2]))) kPass))
def q__law_is_broken (cl : Cl) : DenS := (kSeq (kAsg (kNm 1) (kBin .Add (kCall cl 25 (kCons (kBi .len (kCons (kV 0) kNil)) kNil) kNil [0]) (kCall cl 28 (kCons (kBi .len (kCons (kV 0) kNil)) kNil) kNil [0]))) (kSeq (kRet (kCmp .Eq (kBi .lenset (kCons (kLc (kBi .sum (kCons (kLc (kIx (kIx (kV 0) (kV 3)) (kV 4)) (kTp (kTcons (kNm 3) (kTcons (kNm 4) kTnil))) (kIe (kV 2)) kYes [3, 4]) kNil)) (kNm 2) (kIe (kV 1)) kYes [2]) kNil)) (kC (.int 1)))) kPass))
def q__law_raised (cl : Cl) : DenS := (kSeq (kAsg (kNm 2) (kC (.int 1))) (kSeq (kFor (kNm 3) (kRg1 (kV 1)) (kSeq (kAsg (kNm 2) (kBin .Mult (kV 2) (kV 0))) kPass)) (kSeq (kRet (kV 2)) kPass)))
def q_law (cl : Cl) : DenS := (kSeq (kAsg (kNm 1) (kCall cl 21 (kCons (kV 0) kNil) kNil [0])) (kSeq (kAsg (kNm 2) (kCall cl 22 (kCons (kV 1) (kCons (kIte (kCmp .Eq (kCall cl 22 (kCons (kV 1) (kCons (kC (.int 3)) kNil)) kNil [0, 1]) (kC (.int 0))) (kC (.int 6)) (kC (.int 4))) kNil)) kNil [0, 1])) (kSeq (kAsg (kNm 3) (kCall cl 24 (kCons (kLc (kLc (kTup (kCons (kV 20) (kCons (kV 23) (kCons (kBin .Sub (kBin .Sub (kV 2) (kV 20)) (kV 23)) kNil)))) (kNm 23) (kRg1 (kBin .Add (kBin .Sub (kV 2) (kV 20)) (kC (.int 1)))) kYes [23]) (kNm 20) (kRg1 (kBin .Add (kV 2) (kC (.int 1)))) kYes [20]) kNil) kNil [0])) (kSeq (kAsg (kTp (kTcons (kNm 10) (kTcons (kNm 11) (kTcons (kNm 12) kTnil)))) (kTup (kCons (kAl (kLst kNil)) (kCons (kAl (kLst kNil)) (kCons (kC (.int 0)) kNil))))) (kSeq (kFor (kNm 4) (kIe (kV 3)) (kSeq (kFor (kNm 13) (kIe (kV 3)) (kSeq (kAsg (kNm 18) (kBi .tup (kCons (kLc (kBin .Sub (kBin .Sub (kV 2) (kV 20)) (kV 23)) (kTp (kTcons (kNm 20) (kTcons (kNm 23) kTnil))) (kZp (kV 4) (kV 13)) kYes [20, 23]) kNil))) (kSeq (kIteS (kCmp .GtE (kBi .mn (kCons (kV 18) kNil)) (kC (.int 0))) (kSeq (kExp (kMeth .append (kV 10) (kCons (kTup (kCons (kV 4) (kCons (kV 13) (kCons (kV 18) kNil)))) kNil))) (kSeq (kExp (kMeth .extend (kV 11) (kCons (kIte (kCall cl 27 (kCons (kTup (kCons (kV 4) (kCons (kV 13) (kCons (kV 18) kNil)))) kNil) kNil [0]) (kLst (kCons (kTup (kCons (kV 4) (kCons (kV 13) (kCons (kV 18) kNil)))) kNil)) (kLst kNil)) kNil))) (kSeq (kAsg (kNm 12) (kBin .Add (kV 12) (kBi .int (kCons (kCall cl 29 (kCons (kTup (kCons (kV 4) (kCons (kV 13) (kCons (kV 18) kNil)))) kNil) kNil [0]) kNil)))) kPass))) kPass) kPass))) kPass)) (kSeq (kAsg (kNm 5) (kTup (kCons (kTup (kCons (kC (.str ⟨#[114, 111, 119, 115]⟩)) (kCons (kCall cl 30 (kCons (kBi .len (kCons (kV 3) kNil)) (kCons (kC (.int 3)) kNil)) kNil [0, 1]) kNil))) (kCons (kTup (kCons (kC (.str ⟨#[108, 105, 110, 101, 115]⟩)) (kCons (kBi .len (kCons (kV 10) kNil)) kNil))) (kCons (kTup (kCons (kC (.str ⟨#[101, 118, 101, 110]⟩)) (kCons (kBi .len (kCons (kV 11) kNil)) kNil))) (kCons (kTup (kCons (kC (.str ⟨#[98, 114, 111, 107, 101, 110]⟩)) (kCons (kV 12) kNil))) kNil)))))) (kSeq (kIteS (kCmp .NotEq (kBi .repr (kCons (kLst (kCons (kCall cl 11 (kCons (kV 2) kNil) kNil [0]) (kCons (kCall cl 11 kNil (kCons (kV 2) kNil) [0]) (kCons (kCall cl 9 (kCons (kV 2) kNil) kNil [0]) kNil)))) kNil)) (kBi .repr (kCons (kLst (kCons (kV 5) (kCons (kV 5) (kCons (kIx (kIx (kV 5) (kC (.int 0))) (kC (.int 1))) kNil)))) kNil))) (kSeq (kRet (kC (.bl false))) kPass) kPass) (kSeq (kIteS (kOr (kCmp .NotEq (kCall cl 15 (kCons (kC (.int 3)) (kCons (kV 2) kNil)) kNil [0, 1]) (kBi .len (kCons (kV 10) kNil))) (kCmp .NotEq (kCall cl 5 (kCons (kV 2) kNil) kNil [0]) (kBi .len (kCons (kV 11) kNil)))) (kSeq (kRet (kC (.bl false))) kPass) kPass) (kSeq (kIteS (kOr (kCmp .NotEq (kCall cl 18 (kCons (kC (.int 3)) (kCons (kV 2) kNil)) kNil [0, 1]) (kBi .tup (kCons (kBi .srt (kCons (kV 10) kNil)) kNil))) (kCmp .NotEq (kCall cl 6 (kCons (kV 2) kNil) kNil [0]) (kBi .tup (kCons (kBi .srt (kCons (kV 11) kNil)) kNil)))) (kSeq (kRet (kC (.bl false))) kPass) kPass) (kSeq (kFor (kNm 6) (kIe (kLc (kCall cl 23 (kCons (kV 1) (kCons (kV 10) kNil)) kNil [0, 1]) (kNm 19) (kRg1 (kC (.int 6))) kYes [19])) (kSeq (kAsg (kNm 14) (kCmp .In (kV 6) (kV 11))) (kSeq (kAsg (kNm 15) (kTup (kCons (kTup (kCons (kC (.str ⟨#[114, 111, 119, 115]⟩)) (kCons (kC (.bl true)) kNil))) (kCons (kTup (kCons (kC (.str ⟨#[108, 105, 110, 101, 115]⟩)) (kCons (kC (.bl true)) kNil))) (kCons (kTup (kCons (kC (.str ⟨#[101, 118, 101, 110]⟩)) (kCons (kV 14) kNil))) (kCons (kTup (kCons (kC (.str ⟨#[98, 114, 111, 107, 101, 110]⟩)) (kCons (kCall cl 29 (kCons (kV 6) kNil) kNil [0]) kNil))) kNil)))))) (kSeq (kIteS (kOr (kCmp .NotEq (kBi .repr (kCons (kLst (kCons (kCall cl 8 (kCons (kV 6) kNil) kNil [0]) (kCons (kCall cl 8 kNil (kCons (kV 6) kNil) [0]) kNil))) kNil)) (kBi .repr (kCons (kLst (kCons (kV 15) (kCons (kV 15) kNil))) kNil))) (kCmp .IsNot (kCall cl 20 (kCons (kV 6) kNil) kNil [0]) (kC .non))) (kSeq (kRet (kC (.bl false))) kPass) kPass) (kSeq (kAsg (kNm 16) (kTup (kCons (kIx (kV 6) (kC (.int 0))) (kCons (kRev (kIx (kV 6) (kC (.int 1)))) (kCons (kIx (kV 6) (kC (.int 2))) kNil))))) (kSeq (kAsg (kNm 17) (kCmp .Is (kCall cl 20 (kCons (kV 16) kNil) kNil [0]) (kC .non))) (kSeq (kIteS (kCmp .NotEq (kBi .repr (kCons (kSl false true (kCall cl 8 (kCons (kV 16) kNil) kNil [0]) (kC .non) (kC (.int 2))) kNil)) (kBi .repr (kCons (kTup (kCons (kTup (kCons (kC (.str ⟨#[114, 111, 119, 115]⟩)) (kCons (kC (.bl true)) kNil))) (kCons (kTup (kCons (kC (.str ⟨#[108, 105, 110, 101, 115]⟩)) (kCons (kV 17) kNil))) kNil))) kNil))) (kSeq (kRet (kC (.bl false))) kPass) kPass) kPass))))))) (kSeq (kAsg (kNm 7) (kBin .Mult (kCall cl 22 (kCons (kV 1) (kCons (kCall cl 23 (kCons (kV 1) (kCons (kLst (kCons (kC (.int 40)) (kCons (kBin .Pow (kC (.int 10)) (kC (.int 6))) kNil))) kNil)) kNil [0, 1]) kNil)) kNil [0, 1]) (kCall cl 23 (kCons (kV 1) (kCons (kLst (kCons (kC (.int 1)) (kCons (kC (.int 1)) (kCons (kBin .Pow (kC (.int 10)) (kC (.int 12))) kNil)))) kNil)) kNil [0, 1]))) (kSeq (kAsg (kNm 8) (kCall cl 11 (kCons (kV 7) kNil) kNil [0])) (kSeq (kAsg (kNm 9) (kLc (kV 22) (kTp (kTcons (kNm 21) (kTcons (kNm 22) kTnil))) (kIe (kV 8)) kYes [21, 22])) (kSeq (kIteS (kOr (kCmp .NotEq (kV 9) (kRev (kBi .srt (kCons (kV 9) kNil)))) (kOr (kCmp .NotEq (kIx (kV 9) (kC (.int 0))) (kCall cl 9 kNil (kCons (kV 7) kNil) [0])) (kCmp .NotEq (kIx (kV 9) (kC (.int 2))) (kCall cl 5 kNil (kCons (kV 7) kNil) [0])))) (kSeq (kRet (kC (.bl false))) kPass) kPass) (kSeq (kIteS (kAnd (kCmp .LtE (kV 7) (kBin .Pow (kC (.int 10)) (kC (.int 6)))) (kCmp .NotEq (kIx (kV 9) (kC (.int 1))) (kCall cl 15 (kCons (kC (.int 3)) (kCons (kV 7) kNil)) kNil [0, 1]))) (kSeq (kRet (kC (.bl false))) kPass) kPass) (kSeq (kIteS (kOr (kCmp .IsNot (kCall cl 13 (kCons (kV 7) (kCons (kV 8) kNil)) kNil [0, 1]) (kC .non)) (kCmp .IsNot (kCall cl 13 kNil (kCons (kV 8) (kCons (kV 7) kNil)) [1, 0]) (kC .non))) (kSeq (kRet (kC (.bl false))) kPass) kPass) (kSeq (kIteS (kAnd (kCmp .NotEq (kV 2) (kV 7)) (kCmp .NotEq (kBi .repr (kCons (kCall cl 13 (kCons (kV 2) (kCons (kV 8) kNil)) kNil [0, 1]) kNil)) (kBi .repr (kCons (kIx (kV 5) (kC (.int 0))) kNil)))) (kSeq (kRet (kC (.bl false))) kPass) kPass) (kSeq (kRet (kCmp .Is (kCall cl 13 (kCons (kV 2) (kCons (kV 5) kNil)) kNil [0, 1]) (kC .non))) kPass))))))))))))))))))
theorem q_line_sums_eq (cl : Cl) : dSs cl cs b_line_sums = q_line_sums cl := by kernel_rfl
theorem q_broken_sums_eq (cl : Cl) : dSs cl cs b_broken_sums = q_broken_sums cl := by kernel_rfl
theorem q_is_even_square_eq (cl : Cl) : dSs cl cs b_is_even_square = q_is_even_square cl := by kernel_rfl
theorem q_is_broken_even_eq (cl : Cl) : dSs cl cs b_is_broken_even = q_is_broken_even cl := by kernel_rfl
theorem q_three_square_eq (cl : Cl) : dSs cl cs b_three_square = q_three_square cl := by kernel_rfl
theorem q_three_number_eq (cl : Cl) : dSs cl cs b_three_number = q_three_number cl := by kernel_rfl
theorem q_threes_listed_eq (cl : Cl) : dSs cl cs b_threes_listed = q_threes_listed cl := by kernel_rfl
theorem q_is_integer_eq (cl : Cl) : dSs cl cs b_is_integer = q_is_integer cl := by kernel_rfl
theorem q_kinds_of_eq (cl : Cl) : dSs cl cs b_kinds_of = q_kinds_of cl := by kernel_rfl
theorem q_rows_number_eq (cl : Cl) : dSs cl cs b_rows_number = q_rows_number cl := by kernel_rfl
theorem q_four_of_eq (cl : Cl) : dSs cl cs b_four_of = q_four_of cl := by kernel_rfl
theorem q_three_ladder_eq (cl : Cl) : dSs cl cs b_three_ladder = q_three_ladder cl := by kernel_rfl
theorem q_has_form_eq (cl : Cl) : dSs cl cs b_has_form = q_has_form cl := by kernel_rfl
theorem q_three_ladder_error_eq (cl : Cl) : dSs cl cs b_three_ladder_error = q_three_ladder_error cl := by kernel_rfl
theorem q_choose_any_eq (cl : Cl) : dSs cl cs b_choose_any = q_choose_any cl := by kernel_rfl
theorem q_sheets_number_eq (cl : Cl) : dSs cl cs b_sheets_number = q_sheets_number cl := by kernel_rfl
theorem q_rows_within_eq (cl : Cl) : dSs cl cs b_rows_within = q_rows_within cl := by kernel_rfl
theorem q_less_row_eq (cl : Cl) : dSs cl cs b_less_row = q_less_row cl := by kernel_rfl
theorem q_sheets_listed_eq (cl : Cl) : dSs cl cs b_sheets_listed = q_sheets_listed cl := by kernel_rfl
theorem q_column_sums_eq (cl : Cl) : dSs cl cs b_column_sums = q_column_sums cl := by kernel_rfl
theorem q_unlike_line_eq (cl : Cl) : dSs cl cs b_unlike_line = q_unlike_line cl := by kernel_rfl
theorem q__law_pot_eq (cl : Cl) : dSs cl cs b__law_pot = q__law_pot cl := by kernel_rfl
theorem q__law_of_eq (cl : Cl) : dSs cl cs b__law_of = q__law_of cl := by kernel_rfl
theorem q__law_one_eq (cl : Cl) : dSs cl cs b__law_one = q__law_one cl := by kernel_rfl
theorem q__law_flat_eq (cl : Cl) : dSs cl cs b__law_flat = q__law_flat cl := by kernel_rfl
theorem q__law_lines_eq (cl : Cl) : dSs cl cs b__law_lines = q__law_lines cl := by kernel_rfl
theorem q__law_line_sums_eq (cl : Cl) : dSs cl cs b__law_line_sums = q__law_line_sums cl := by kernel_rfl
theorem q__law_is_even_eq (cl : Cl) : dSs cl cs b__law_is_even = q__law_is_even cl := by kernel_rfl
theorem q__law_broken_lines_eq (cl : Cl) : dSs cl cs b__law_broken_lines = q__law_broken_lines cl := by kernel_rfl
theorem q__law_is_broken_eq (cl : Cl) : dSs cl cs b__law_is_broken = q__law_is_broken cl := by kernel_rfl
theorem q__law_raised_eq (cl : Cl) : dSs cl cs b__law_raised = q__law_raised cl := by kernel_rfl
theorem q_law_eq (cl : Cl) : dSs cl cs b_law = q_law cl := by kernel_rfl
def qs : List QD := [(f_line_sums, q_line_sums), (f_broken_sums, q_broken_sums), (f_is_even_square, q_is_even_square), (f_is_broken_even, q_is_broken_even), (f_three_square, q_three_square), (f_three_number, q_three_number), (f_threes_listed, q_threes_listed), (f_is_integer, q_is_integer), (f_kinds_of, q_kinds_of), (f_rows_number, q_rows_number), (f_four_of, q_four_of), (f_three_ladder, q_three_ladder), (f_has_form, q_has_form), (f_three_ladder_error, q_three_ladder_error), (f_choose_any, q_choose_any), (f_sheets_number, q_sheets_number), (f_rows_within, q_rows_within), (f_less_row, q_less_row), (f_sheets_listed, q_sheets_listed), (f_column_sums, q_column_sums), (f_unlike_line, q_unlike_line), (f__law_pot, q__law_pot), (f__law_of, q__law_of), (f__law_one, q__law_one), (f__law_flat, q__law_flat), (f__law_lines, q__law_lines), (f__law_line_sums, q__law_line_sums), (f__law_is_even, q__law_is_even), (f__law_broken_lines, q__law_broken_lines), (f__law_is_broken, q__law_is_broken), (f__law_raised, q__law_raised), (f_law, q_law)]
theorem qok : QOk cs qs := ⟨q_line_sums_eq, q_broken_sums_eq, q_is_even_square_eq, q_is_broken_even_eq, q_three_square_eq, q_three_number_eq, q_threes_listed_eq, q_is_integer_eq, q_kinds_of_eq, q_rows_number_eq, q_four_of_eq, q_three_ladder_eq, q_has_form_eq, q_three_ladder_error_eq, q_choose_any_eq, q_sheets_number_eq, q_rows_within_eq, q_less_row_eq, q_sheets_listed_eq, q_column_sums_eq, q_unlike_line_eq, q__law_pot_eq, q__law_of_eq, q__law_one_eq, q__law_flat_eq, q__law_lines_eq, q__law_line_sums_eq, q__law_is_even_eq, q__law_broken_lines_eq, q__law_is_broken_eq, q__law_raised_eq, q_law_eq, trivial⟩
theorem run_q (k : Nat) : runF cs fds k = runQ qs k := runQ_eq qok k
def midA : Ss := takeS (dropS b_law 2) 3
def midB : Ss := takeS (dropS b_law 5) 4
def q_midA (cl : Cl) : DenS := (kSeq (kAsg (kNm 3) (kCall cl 24 (kCons (kLc (kLc (kTup (kCons (kV 20) (kCons (kV 23) (kCons (kBin .Sub (kBin .Sub (kV 2) (kV 20)) (kV 23)) kNil)))) (kNm 23) (kRg1 (kBin .Add (kBin .Sub (kV 2) (kV 20)) (kC (.int 1)))) kYes [23]) (kNm 20) (kRg1 (kBin .Add (kV 2) (kC (.int 1)))) kYes [20]) kNil) kNil [0])) (kSeq (kAsg (kTp (kTcons (kNm 10) (kTcons (kNm 11) (kTcons (kNm 12) kTnil)))) (kTup (kCons (kAl (kLst kNil)) (kCons (kAl (kLst kNil)) (kCons (kC (.int 0)) kNil))))) (kSeq (kFor (kNm 4) (kIe (kV 3)) (kSeq (kFor (kNm 13) (kIe (kV 3)) (kSeq (kAsg (kNm 18) (kBi .tup (kCons (kLc (kBin .Sub (kBin .Sub (kV 2) (kV 20)) (kV 23)) (kTp (kTcons (kNm 20) (kTcons (kNm 23) kTnil))) (kZp (kV 4) (kV 13)) kYes [20, 23]) kNil))) (kSeq (kIteS (kCmp .GtE (kBi .mn (kCons (kV 18) kNil)) (kC (.int 0))) (kSeq (kExp (kMeth .append (kV 10) (kCons (kTup (kCons (kV 4) (kCons (kV 13) (kCons (kV 18) kNil)))) kNil))) (kSeq (kExp (kMeth .extend (kV 11) (kCons (kIte (kCall cl 27 (kCons (kTup (kCons (kV 4) (kCons (kV 13) (kCons (kV 18) kNil)))) kNil) kNil [0]) (kLst (kCons (kTup (kCons (kV 4) (kCons (kV 13) (kCons (kV 18) kNil)))) kNil)) (kLst kNil)) kNil))) (kSeq (kAsg (kNm 12) (kBin .Add (kV 12) (kBi .int (kCons (kCall cl 29 (kCons (kTup (kCons (kV 4) (kCons (kV 13) (kCons (kV 18) kNil)))) kNil) kNil [0]) kNil)))) kPass))) kPass) kPass))) kPass)) kPass)))
def q_midB (cl : Cl) : DenS := (kSeq (kAsg (kNm 5) (kTup (kCons (kTup (kCons (kC (.str ⟨#[114, 111, 119, 115]⟩)) (kCons (kCall cl 30 (kCons (kBi .len (kCons (kV 3) kNil)) (kCons (kC (.int 3)) kNil)) kNil [0, 1]) kNil))) (kCons (kTup (kCons (kC (.str ⟨#[108, 105, 110, 101, 115]⟩)) (kCons (kBi .len (kCons (kV 10) kNil)) kNil))) (kCons (kTup (kCons (kC (.str ⟨#[101, 118, 101, 110]⟩)) (kCons (kBi .len (kCons (kV 11) kNil)) kNil))) (kCons (kTup (kCons (kC (.str ⟨#[98, 114, 111, 107, 101, 110]⟩)) (kCons (kV 12) kNil))) kNil)))))) (kSeq (kIteS (kCmp .NotEq (kBi .repr (kCons (kLst (kCons (kCall cl 11 (kCons (kV 2) kNil) kNil [0]) (kCons (kCall cl 11 kNil (kCons (kV 2) kNil) [0]) (kCons (kCall cl 9 (kCons (kV 2) kNil) kNil [0]) kNil)))) kNil)) (kBi .repr (kCons (kLst (kCons (kV 5) (kCons (kV 5) (kCons (kIx (kIx (kV 5) (kC (.int 0))) (kC (.int 1))) kNil)))) kNil))) (kSeq (kRet (kC (.bl false))) kPass) kPass) (kSeq (kIteS (kOr (kCmp .NotEq (kCall cl 15 (kCons (kC (.int 3)) (kCons (kV 2) kNil)) kNil [0, 1]) (kBi .len (kCons (kV 10) kNil))) (kCmp .NotEq (kCall cl 5 (kCons (kV 2) kNil) kNil [0]) (kBi .len (kCons (kV 11) kNil)))) (kSeq (kRet (kC (.bl false))) kPass) kPass) (kSeq (kIteS (kOr (kCmp .NotEq (kCall cl 18 (kCons (kC (.int 3)) (kCons (kV 2) kNil)) kNil [0, 1]) (kBi .tup (kCons (kBi .srt (kCons (kV 10) kNil)) kNil))) (kCmp .NotEq (kCall cl 6 (kCons (kV 2) kNil) kNil [0]) (kBi .tup (kCons (kBi .srt (kCons (kV 11) kNil)) kNil)))) (kSeq (kRet (kC (.bl false))) kPass) kPass) kPass))))
def q_body (cl : Cl) : DenS := (kSeq (kAsg (kNm 14) (kCmp .In (kV 6) (kV 11))) (kSeq (kAsg (kNm 15) (kTup (kCons (kTup (kCons (kC (.str ⟨#[114, 111, 119, 115]⟩)) (kCons (kC (.bl true)) kNil))) (kCons (kTup (kCons (kC (.str ⟨#[108, 105, 110, 101, 115]⟩)) (kCons (kC (.bl true)) kNil))) (kCons (kTup (kCons (kC (.str ⟨#[101, 118, 101, 110]⟩)) (kCons (kV 14) kNil))) (kCons (kTup (kCons (kC (.str ⟨#[98, 114, 111, 107, 101, 110]⟩)) (kCons (kCall cl 29 (kCons (kV 6) kNil) kNil [0]) kNil))) kNil)))))) (kSeq (kIteS (kOr (kCmp .NotEq (kBi .repr (kCons (kLst (kCons (kCall cl 8 (kCons (kV 6) kNil) kNil [0]) (kCons (kCall cl 8 kNil (kCons (kV 6) kNil) [0]) kNil))) kNil)) (kBi .repr (kCons (kLst (kCons (kV 15) (kCons (kV 15) kNil))) kNil))) (kCmp .IsNot (kCall cl 20 (kCons (kV 6) kNil) kNil [0]) (kC .non))) (kSeq (kRet (kC (.bl false))) kPass) kPass) (kSeq (kAsg (kNm 16) (kTup (kCons (kIx (kV 6) (kC (.int 0))) (kCons (kRev (kIx (kV 6) (kC (.int 1)))) (kCons (kIx (kV 6) (kC (.int 2))) kNil))))) (kSeq (kAsg (kNm 17) (kCmp .Is (kCall cl 20 (kCons (kV 16) kNil) kNil [0]) (kC .non))) (kSeq (kIteS (kCmp .NotEq (kBi .repr (kCons (kSl false true (kCall cl 8 (kCons (kV 16) kNil) kNil [0]) (kC .non) (kC (.int 2))) kNil)) (kBi .repr (kCons (kTup (kCons (kTup (kCons (kC (.str ⟨#[114, 111, 119, 115]⟩)) (kCons (kC (.bl true)) kNil))) (kCons (kTup (kCons (kC (.str ⟨#[108, 105, 110, 101, 115]⟩)) (kCons (kV 17) kNil))) kNil))) kNil))) (kSeq (kRet (kC (.bl false))) kPass) kPass) kPass))))))
theorem q_midA_eq (cl : Cl) : dSs cl cs midA = q_midA cl := by kernel_rfl
theorem q_midB_eq (cl : Cl) : dSs cl cs midB = q_midB cl := by kernel_rfl
theorem q_body_eq (cl : Cl) : dSs cl cs bodyS = q_body cl := by kernel_rfl
def stepQ : D → En → Hh → Out Fl := fun d en h => (kNm 6 en (.d d) h).bind fun en h => q_body (runQ qs 11) en h
theorem stepL_eq : stepL = stepQ := by
  unfold stepL stepQ
  rw [run_q, q_body_eq]
def innerS : Ss := bodyF (nthS b_law 4)
def q_inner (cl : Cl) : DenS := (kSeq (kFor (kNm 13) (kIe (kV 3)) (kSeq (kAsg (kNm 18) (kBi .tup (kCons (kLc (kBin .Sub (kBin .Sub (kV 2) (kV 20)) (kV 23)) (kTp (kTcons (kNm 20) (kTcons (kNm 23) kTnil))) (kZp (kV 4) (kV 13)) kYes [20, 23]) kNil))) (kSeq (kIteS (kCmp .GtE (kBi .mn (kCons (kV 18) kNil)) (kC (.int 0))) (kSeq (kExp (kMeth .append (kV 10) (kCons (kTup (kCons (kV 4) (kCons (kV 13) (kCons (kV 18) kNil)))) kNil))) (kSeq (kExp (kMeth .extend (kV 11) (kCons (kIte (kCall cl 27 (kCons (kTup (kCons (kV 4) (kCons (kV 13) (kCons (kV 18) kNil)))) kNil) kNil [0]) (kLst (kCons (kTup (kCons (kV 4) (kCons (kV 13) (kCons (kV 18) kNil)))) kNil)) (kLst kNil)) kNil))) (kSeq (kAsg (kNm 12) (kBin .Add (kV 12) (kBi .int (kCons (kCall cl 29 (kCons (kTup (kCons (kV 4) (kCons (kV 13) (kCons (kV 18) kNil)))) kNil) kNil [0]) kNil)))) kPass))) kPass) kPass))) kPass)
theorem q_inner_eq (cl : Cl) : dSs cl cs innerS = q_inner cl := by kernel_rfl
def stepA : D → En → Hh → Out Fl := fun d en h => (kNm 4 en (.d d) h).bind fun en h => dSs (runF cs fds 11) cs innerS en h
def stepAQ : D → En → Hh → Out Fl := fun d en h => (kNm 4 en (.d d) h).bind fun en h => q_inner (runQ qs 11) en h
theorem stepA_eq : stepA = stepAQ := by
  unfold stepA stepAQ
  rw [run_q, q_inner_eq]
def mid0 : Ss := takeS (dropS b_law 2) 2
def q_mid0 (cl : Cl) : DenS := (kSeq (kAsg (kNm 3) (kCall cl 24 (kCons (kLc (kLc (kTup (kCons (kV 20) (kCons (kV 23) (kCons (kBin .Sub (kBin .Sub (kV 2) (kV 20)) (kV 23)) kNil)))) (kNm 23) (kRg1 (kBin .Add (kBin .Sub (kV 2) (kV 20)) (kC (.int 1)))) kYes [23]) (kNm 20) (kRg1 (kBin .Add (kV 2) (kC (.int 1)))) kYes [20]) kNil) kNil [0])) (kSeq (kAsg (kTp (kTcons (kNm 10) (kTcons (kNm 11) (kTcons (kNm 12) kTnil)))) (kTup (kCons (kAl (kLst kNil)) (kCons (kAl (kLst kNil)) (kCons (kC (.int 0)) kNil))))) kPass))
theorem q_mid0_eq (cl : Cl) : dSs cl cs mid0 = q_mid0 cl := by kernel_rfl
def midC : Ss := takeS (dropS b_law 5) 3
def q_midC (cl : Cl) : DenS := (kSeq (kAsg (kNm 5) (kTup (kCons (kTup (kCons (kC (.str ⟨#[114, 111, 119, 115]⟩)) (kCons (kCall cl 30 (kCons (kBi .len (kCons (kV 3) kNil)) (kCons (kC (.int 3)) kNil)) kNil [0, 1]) kNil))) (kCons (kTup (kCons (kC (.str ⟨#[108, 105, 110, 101, 115]⟩)) (kCons (kBi .len (kCons (kV 10) kNil)) kNil))) (kCons (kTup (kCons (kC (.str ⟨#[101, 118, 101, 110]⟩)) (kCons (kBi .len (kCons (kV 11) kNil)) kNil))) (kCons (kTup (kCons (kC (.str ⟨#[98, 114, 111, 107, 101, 110]⟩)) (kCons (kV 12) kNil))) kNil)))))) (kSeq (kIteS (kCmp .NotEq (kBi .repr (kCons (kLst (kCons (kCall cl 11 (kCons (kV 2) kNil) kNil [0]) (kCons (kCall cl 11 kNil (kCons (kV 2) kNil) [0]) (kCons (kCall cl 9 (kCons (kV 2) kNil) kNil [0]) kNil)))) kNil)) (kBi .repr (kCons (kLst (kCons (kV 5) (kCons (kV 5) (kCons (kIx (kIx (kV 5) (kC (.int 0))) (kC (.int 1))) kNil)))) kNil))) (kSeq (kRet (kC (.bl false))) kPass) kPass) (kSeq (kIteS (kOr (kCmp .NotEq (kCall cl 15 (kCons (kC (.int 3)) (kCons (kV 2) kNil)) kNil [0, 1]) (kBi .len (kCons (kV 10) kNil))) (kCmp .NotEq (kCall cl 5 (kCons (kV 2) kNil) kNil [0]) (kBi .len (kCons (kV 11) kNil)))) (kSeq (kRet (kC (.bl false))) kPass) kPass) kPass)))
theorem q_midC_eq (cl : Cl) : dSs cl cs midC = q_midC cl := by kernel_rfl
def nope : Ss := (.cons (.ret (.c (.bl false))) .nil)
theorem for4 (en : En) (h h' : Hh) (rows : List D) (l : List Turn) (en' : En) (hr : en[3]? = some (some (.lst rows))) (hl : l.map (·.1) = rows) (hn : l.length < FUEL)
    (c : Chain stepA en h l) (e : lastT en h l = (en', h')) : dSs (runF cs fds 11) cs (.cons (nthS b_law 4) .nil) en h = .ok (.nx en') h' := by
  have e4 : nthS b_law 4 = .for (.nm 4) (.e (.v 3)) innerS := rfl
  rw [e4]
  have it : dI (runF cs fds 11) cs (.e (.v 3)) en h = .ok (.st (l.map (·.1))) h := by
    simp only [dI, kIe, dE, kV, hr, ok_bind, hl]
    rfl
  have lp : dS (runF cs fds 11) cs (.for (.nm 4) (.e (.v 3)) innerS) en h = .ok (.nx en') h' := by
    show kFor (kNm 4) (dI _ cs _) (dSs _ cs innerS) _ _ = _
    unfold kFor
    rw [it, ok_bind]
    have := for_chain l FUEL en h c hn
    rw [e] at this
    exact this
  show kSeq _ kPass _ _ = _
  rw [seq_nx lp]
  rfl
theorem last8 (r : Int) (en : En) (h : Hh) (sh ev : List D) (h2 : en[2]? = some (some (.int r))) (h10 : en[10]? = some (some (.ref 2))) (h11 : en[11]? = some (some (.ref 3)))
    (f1 : runF cs fds 11 18 [.int 3, .int r] [] = .ok (.d (.tup sh)) []) (f2 : biD .srt [.d (.ref 2)] h = some (.fl sh)) (f4 : eqD (.d (.tup sh)) (.d (.tup sh)) h = some true)
    (g1 : runF cs fds 11 6 [.int r] [] = .ok (.d (.tup ev)) []) (g2 : biD .srt [.d (.ref 3)] h = some (.fl ev)) (g4 : eqD (.d (.tup ev)) (.d (.tup ev)) h = some true) :
    dSs (runF cs fds 11) cs (.cons (nthS b_law 8) .nil) en h = .ok (.nx en) h := by
  have e8 : nthS b_law 8 = (.ite (.or (.cmp .NotEq (.call 18 (.cons (.c (.int 3)) (.cons (.v 2) .nil)) .nil [0, 1]) (.bi .tup (.cons (.bi .srt (.cons (.v 10) .nil)) .nil))) (.cmp .NotEq (.call 6 (.cons (.v 2) .nil) .nil [0]) (.bi .tup (.cons (.bi .srt (.cons (.v 11) .nil)) .nil)))) nope .nil) := rfl
  rw [e8]
  have c1 := callD_cl h rfl f1
  have c2 := callD_cl h rfl g1
  have bt : ∀ ds, biD .tup [.fl ds] h = some (.d (.tup ds)) := fun _ => rfl
  simp only [dS, dSs, dE, dEs, kSeq, kIteS, kPass, kOr, kCmp, cmpD, kBi, kCall, kCons, kNil, kV, kC, ok_bind, h2, h10, h11, List.map_cons, List.map_nil, List.cons_append, List.nil_append, List.append_nil, List.getElem?_cons_succ, List.getElem?_cons_zero, al1, al2, toD_d, c1, c2, f2, g2, bt, f4, g4, neD, ofO_s, blR_s, dOut_s, truth_bl, Bool.not_true]
end K99
end

section
set_option Elab.async false
set_option linter.all false
set_option maxRecDepth 100000
set_option maxHeartbeats 0
namespace K99
open MP PySem
def rows0 : List D := [(rw3 0 0 0)]
def lad0 : D := (.tup [(.tup [(.str ⟨#[114, 111, 119, 115]⟩), (.int 1)]), (.tup [(.str ⟨#[108, 105, 110, 101, 115]⟩), (.int 1)]), (.tup [(.str ⟨#[101, 118, 101, 110]⟩), (.int 1)]), (.tup [(.str ⟨#[98, 114, 111, 107, 101, 110]⟩), (.int 1)])])
def ev0 : List D := [(sq 0 0 0 0 0 0 0 0 0)]
def sh0 : List D := [(sq 0 0 0 0 0 0 0 0 0)]
def en0 (x : Option D) : En := [x, some (.ref 1), some (.int 0), some (.lst rows0), some (rw3 0 0 0), some lad0, none, none, none, none, some (.ref 2), some (.ref 3), some (.int 1), some (rw3 0 0 0), none, none, none, none, some (rw3 0 0 0), none, none, none, none, none]
def ena0 (x : Option D) : En := [x, some (.ref 1), some (.int 0), some (.lst rows0), some (rw3 0 0 0), none, none, none, none, none, some (.ref 2), some (.ref 3), some (.int 1), some (rw3 0 0 0), none, none, none, none, some (rw3 0 0 0), none, none, none, none, none]
def stE0 (x one other last : Option D) (brk : Int) : En := [x, some (.ref 1), some (.int 0), some (.lst rows0), one, none, none, none, none, none, some (.ref 2), some (.ref 3), some (.int brk), other, none, none, none, none, last, none, none, none, none, none]
def stH0 (cells : List Int) (m c : Int) (i j : Nat) : Hh := pot cells m c [.lst (sh0.take i), .lst (ev0.take j)]
theorem pre0 (x : Option D) (cells : List Int) (m c : Int) : dSs (runF cs fds 11) cs mid0 [x, some (.ref 1), some (.int 0), none, none, none, none, none, none, none, none, none, none, none, none, none, none, none, none, none, none, none, none, none] (pot cells m c []) = .ok (.nx (stE0 x none none none 0)) (stH0 cells m c 0 0) := by
  rw [run_q, q_mid0_eq]
  kernel_rfl
theorem tn0_0 (x : Option D) (cells : List Int) (m c : Int) : stepA (rw3 0 0 0) (stE0 x none none none 0) (stH0 cells m c 0 0) = .ok (.nx (stE0 x (some (rw3 0 0 0)) (some (rw3 0 0 0)) (some (rw3 0 0 0)) 1)) (stH0 cells m c 1 1) := by
  rw [stepA_eq]
  kernel_rfl
def turns0 (x : Option D) (cells : List Int) (m c : Int) : List Turn := [((rw3 0 0 0), stE0 x (some (rw3 0 0 0)) (some (rw3 0 0 0)) (some (rw3 0 0 0)) 1, stH0 cells m c 1 1)]
theorem mida0 (x : Option D) (cells : List Int) (m c : Int) : dSs (runF cs fds 11) cs midA [x, some (.ref 1), some (.int 0), none, none, none, none, none, none, none, none, none, none, none, none, none, none, none, none, none, none, none, none, none] (pot cells m c []) = .ok (.nx (ena0 x)) (pot cells m c [.lst sh0, .lst ev0]) :=
  (take_drop _ cs 2 midA _ _ _ _ (pre0 x cells m c)).trans (for4 _ _ _ rows0 (turns0 x cells m c) _ rfl (by kernel_rfl) (show 1 < FUEL from by decide) ⟨tn0_0 x cells m c, trivial⟩ (by kernel_rfl))
theorem midc0 (x : Option D) (cells : List Int) (m c : Int) : dSs (runF cs fds 11) cs midC (ena0 x) (pot cells m c [.lst sh0, .lst ev0]) = .ok (.nx (en0 x)) (pot cells m c [.lst sh0, .lst ev0]) := by
  rw [run_q, q_midC_eq]
  kernel_rfl
theorem f1_0 : runF cs fds 11 18 [.int 3, .int 0] [] = .ok (.d (.tup sh0)) [] := by
  rw [run_q]
  kernel_rfl
theorem g1_0 : runF cs fds 11 6 [.int 0] [] = .ok (.d (.tup ev0)) [] := by
  rw [run_q]
  kernel_rfl
theorem f2_0 (cells : List Int) (m c : Int) : biD .srt [.d (.ref 2)] (pot cells m c [.lst sh0, .lst ev0]) = some (.fl sh0) := by kernel_rfl
theorem g2_0 (cells : List Int) (m c : Int) : biD .srt [.d (.ref 3)] (pot cells m c [.lst sh0, .lst ev0]) = some (.fl ev0) := by kernel_rfl
theorem f4_0 (h : Hh) : eqD (.d (.tup sh0)) (.d (.tup sh0)) h = some true := by kernel_rfl
theorem g4_0 (h : Hh) : eqD (.d (.tup ev0)) (.d (.tup ev0)) h = some true := by kernel_rfl
theorem midb0 (x : Option D) (cells : List Int) (m c : Int) : dSs (runF cs fds 11) cs midB (ena0 x) (pot cells m c [.lst sh0, .lst ev0]) = .ok (.nx (en0 x)) (pot cells m c [.lst sh0, .lst ev0]) :=
  (take_drop _ cs 3 midB _ _ _ _ (midc0 x cells m c)).trans (last8 0 _ _ sh0 ev0 rfl rfl rfl f1_0 (f2_0 cells m c) (f4_0 _) g1_0 (g2_0 cells m c) (g4_0 _))
def enl0 (x a6 a14 a15 a16 a17 : Option D) : En := [x, some (.ref 1), some (.int 0), some (.lst rows0), some (rw3 0 0 0), some lad0, a6, none, none, none, some (.ref 2), some (.ref 3), some (.int 1), some (rw3 0 0 0), a14, a15, a16, a17, some (rw3 0 0 0), none, none, none, none, none]
def tab0_0 : List (D × D × Bool × Bool × Bool) := [(sq 0 0 0 0 0 0 0 0 0, sq 0 0 0 0 0 0 0 0 0, true, true, true)]
theorem body0_0 (x a6 a14 a15 a16 a17 : Option D) (cells : List Int) (m c : Int) : tab0_0.map (fun t => stepQ t.1 (enl0 x a6 a14 a15 a16 a17) (pot cells m c [.lst sh0, .lst ev0])) = tab0_0.map (fun t => .ok (.nx (enl0 x (some t.1) (some (.bl t.2.2.1)) (some (due t.2.2.1 t.2.2.2.1)) (some t.2.1) (some (.bl t.2.2.2.2)))) (pot cells m c [.lst sh0, .lst ev0])) := by kernel_rfl
def tab0 : List (D × D × Bool × Bool × Bool) := tab0_0
theorem tabs0 : tab0.map (·.1) = sh0 := by kernel_rfl
theorem body0 (x a6 a14 a15 a16 a17 : Option D) (cells : List Int) (m c : Int) : tab0.map (fun t => stepL t.1 (enl0 x a6 a14 a15 a16 a17) (pot cells m c [.lst sh0, .lst ev0])) = tab0.map (fun t => .ok (.nx (enl0 x (some t.1) (some (.bl t.2.2.1)) (some (due t.2.2.1 t.2.2.2.1)) (some t.2.1) (some (.bl t.2.2.2.2)))) (pot cells m c [.lst sh0, .lst ev0])) := by
  rw [stepL_eq]
  unfold tab0
  simp only [List.map_append, body0_0 x a6 a14 a15 a16 a17 cells m c]
end K99
end

section
set_option Elab.async false
set_option linter.all false
set_option maxRecDepth 100000
set_option maxHeartbeats 0
namespace K99
open MP PySem
def rows1 : List D := [(rw3 0 0 1), (rw3 0 1 0), (rw3 1 0 0)]
def lad1 : D := (.tup [(.tup [(.str ⟨#[114, 111, 119, 115]⟩), (.int 27)]), (.tup [(.str ⟨#[108, 105, 110, 101, 115]⟩), (.int 6)]), (.tup [(.str ⟨#[101, 118, 101, 110]⟩), (.int 0)]), (.tup [(.str ⟨#[98, 114, 111, 107, 101, 110]⟩), (.int 0)])])
def ev1 : List D := []
def sh1 : List D := [(sq 0 0 1 0 1 0 1 0 0), (sq 0 0 1 1 0 0 0 1 0), (sq 0 1 0 0 0 1 1 0 0), (sq 0 1 0 1 0 0 0 0 1), (sq 1 0 0 0 0 1 0 1 0), (sq 1 0 0 0 1 0 0 0 1)]
def en1 (x : Option D) : En := [x, some (.ref 1), some (.int 1), some (.lst rows1), some (rw3 1 0 0), some lad1, none, none, none, none, some (.ref 2), some (.ref 3), some (.int 0), some (rw3 1 0 0), none, none, none, none, some (rw3 (-1) 1 1), none, none, none, none, none]
def ena1 (x : Option D) : En := [x, some (.ref 1), some (.int 1), some (.lst rows1), some (rw3 1 0 0), none, none, none, none, none, some (.ref 2), some (.ref 3), some (.int 0), some (rw3 1 0 0), none, none, none, none, some (rw3 (-1) 1 1), none, none, none, none, none]
def stE1 (x one other last : Option D) (brk : Int) : En := [x, some (.ref 1), some (.int 1), some (.lst rows1), one, none, none, none, none, none, some (.ref 2), some (.ref 3), some (.int brk), other, none, none, none, none, last, none, none, none, none, none]
def stH1 (cells : List Int) (m c : Int) (i j : Nat) : Hh := pot cells m c [.lst (sh1.take i), .lst (ev1.take j)]
theorem pre1 (x : Option D) (cells : List Int) (m c : Int) : dSs (runF cs fds 11) cs mid0 [x, some (.ref 1), some (.int 1), none, none, none, none, none, none, none, none, none, none, none, none, none, none, none, none, none, none, none, none, none] (pot cells m c []) = .ok (.nx (stE1 x none none none 0)) (stH1 cells m c 0 0) := by
  rw [run_q, q_mid0_eq]
  kernel_rfl
theorem tn1_0 (x : Option D) (cells : List Int) (m c : Int) : stepA (rw3 0 0 1) (stE1 x none none none 0) (stH1 cells m c 0 0) = .ok (.nx (stE1 x (some (rw3 0 0 1)) (some (rw3 1 0 0)) (some (rw3 0 1 0)) 0)) (stH1 cells m c 2 0) := by
  rw [stepA_eq]
  kernel_rfl
theorem tn1_1 (x : Option D) (cells : List Int) (m c : Int) : stepA (rw3 0 1 0) (stE1 x (some (rw3 0 0 1)) (some (rw3 1 0 0)) (some (rw3 0 1 0)) 0) (stH1 cells m c 2 0) = .ok (.nx (stE1 x (some (rw3 0 1 0)) (some (rw3 1 0 0)) (some (rw3 0 0 1)) 0)) (stH1 cells m c 4 0) := by
  rw [stepA_eq]
  kernel_rfl
theorem tn1_2 (x : Option D) (cells : List Int) (m c : Int) : stepA (rw3 1 0 0) (stE1 x (some (rw3 0 1 0)) (some (rw3 1 0 0)) (some (rw3 0 0 1)) 0) (stH1 cells m c 4 0) = .ok (.nx (stE1 x (some (rw3 1 0 0)) (some (rw3 1 0 0)) (some (rw3 (-1) 1 1)) 0)) (stH1 cells m c 6 0) := by
  rw [stepA_eq]
  kernel_rfl
def turns1 (x : Option D) (cells : List Int) (m c : Int) : List Turn := [((rw3 0 0 1), stE1 x (some (rw3 0 0 1)) (some (rw3 1 0 0)) (some (rw3 0 1 0)) 0, stH1 cells m c 2 0), ((rw3 0 1 0), stE1 x (some (rw3 0 1 0)) (some (rw3 1 0 0)) (some (rw3 0 0 1)) 0, stH1 cells m c 4 0), ((rw3 1 0 0), stE1 x (some (rw3 1 0 0)) (some (rw3 1 0 0)) (some (rw3 (-1) 1 1)) 0, stH1 cells m c 6 0)]
theorem mida1 (x : Option D) (cells : List Int) (m c : Int) : dSs (runF cs fds 11) cs midA [x, some (.ref 1), some (.int 1), none, none, none, none, none, none, none, none, none, none, none, none, none, none, none, none, none, none, none, none, none] (pot cells m c []) = .ok (.nx (ena1 x)) (pot cells m c [.lst sh1, .lst ev1]) :=
  (take_drop _ cs 2 midA _ _ _ _ (pre1 x cells m c)).trans (for4 _ _ _ rows1 (turns1 x cells m c) _ rfl (by kernel_rfl) (show 3 < FUEL from by decide) ⟨tn1_0 x cells m c, tn1_1 x cells m c, tn1_2 x cells m c, trivial⟩ (by kernel_rfl))
theorem midc1 (x : Option D) (cells : List Int) (m c : Int) : dSs (runF cs fds 11) cs midC (ena1 x) (pot cells m c [.lst sh1, .lst ev1]) = .ok (.nx (en1 x)) (pot cells m c [.lst sh1, .lst ev1]) := by
  rw [run_q, q_midC_eq]
  kernel_rfl
theorem f1_1 : runF cs fds 11 18 [.int 3, .int 1] [] = .ok (.d (.tup sh1)) [] := by
  rw [run_q]
  kernel_rfl
theorem g1_1 : runF cs fds 11 6 [.int 1] [] = .ok (.d (.tup ev1)) [] := by
  rw [run_q]
  kernel_rfl
theorem f2_1 (cells : List Int) (m c : Int) : biD .srt [.d (.ref 2)] (pot cells m c [.lst sh1, .lst ev1]) = some (.fl sh1) := by kernel_rfl
theorem g2_1 (cells : List Int) (m c : Int) : biD .srt [.d (.ref 3)] (pot cells m c [.lst sh1, .lst ev1]) = some (.fl ev1) := by kernel_rfl
theorem f4_1 (h : Hh) : eqD (.d (.tup sh1)) (.d (.tup sh1)) h = some true := by kernel_rfl
theorem g4_1 (h : Hh) : eqD (.d (.tup ev1)) (.d (.tup ev1)) h = some true := by kernel_rfl
theorem midb1 (x : Option D) (cells : List Int) (m c : Int) : dSs (runF cs fds 11) cs midB (ena1 x) (pot cells m c [.lst sh1, .lst ev1]) = .ok (.nx (en1 x)) (pot cells m c [.lst sh1, .lst ev1]) :=
  (take_drop _ cs 3 midB _ _ _ _ (midc1 x cells m c)).trans (last8 1 _ _ sh1 ev1 rfl rfl rfl f1_1 (f2_1 cells m c) (f4_1 _) g1_1 (g2_1 cells m c) (g4_1 _))
def enl1 (x a6 a14 a15 a16 a17 : Option D) : En := [x, some (.ref 1), some (.int 1), some (.lst rows1), some (rw3 1 0 0), some lad1, a6, none, none, none, some (.ref 2), some (.ref 3), some (.int 0), some (rw3 1 0 0), a14, a15, a16, a17, some (rw3 (-1) 1 1), none, none, none, none, none]
def tab1_0 : List (D × D × Bool × Bool × Bool) := [(sq 0 0 1 0 1 0 1 0 0, sq 0 0 1 0 1 0 1 0 0, false, false, true), (sq 0 0 1 1 0 0 0 1 0, sq 0 0 1 0 0 1 0 1 0, false, false, false), (sq 0 1 0 0 0 1 1 0 0, sq 0 1 0 1 0 0 1 0 0, false, false, false), (sq 0 1 0 1 0 0 0 0 1, sq 0 1 0 0 0 1 0 0 1, false, false, false), (sq 1 0 0 0 0 1 0 1 0, sq 1 0 0 1 0 0 0 1 0, false, false, false), (sq 1 0 0 0 1 0 0 0 1, sq 1 0 0 0 1 0 0 0 1, false, false, true)]
theorem body1_0 (x a6 a14 a15 a16 a17 : Option D) (cells : List Int) (m c : Int) : tab1_0.map (fun t => stepQ t.1 (enl1 x a6 a14 a15 a16 a17) (pot cells m c [.lst sh1, .lst ev1])) = tab1_0.map (fun t => .ok (.nx (enl1 x (some t.1) (some (.bl t.2.2.1)) (some (due t.2.2.1 t.2.2.2.1)) (some t.2.1) (some (.bl t.2.2.2.2)))) (pot cells m c [.lst sh1, .lst ev1])) := by kernel_rfl
def tab1 : List (D × D × Bool × Bool × Bool) := tab1_0
theorem tabs1 : tab1.map (·.1) = sh1 := by kernel_rfl
theorem body1 (x a6 a14 a15 a16 a17 : Option D) (cells : List Int) (m c : Int) : tab1.map (fun t => stepL t.1 (enl1 x a6 a14 a15 a16 a17) (pot cells m c [.lst sh1, .lst ev1])) = tab1.map (fun t => .ok (.nx (enl1 x (some t.1) (some (.bl t.2.2.1)) (some (due t.2.2.1 t.2.2.2.1)) (some t.2.1) (some (.bl t.2.2.2.2)))) (pot cells m c [.lst sh1, .lst ev1])) := by
  rw [stepL_eq]
  unfold tab1
  simp only [List.map_append, body1_0 x a6 a14 a15 a16 a17 cells m c]
end K99
end

section
set_option Elab.async false
set_option linter.all false
set_option maxRecDepth 100000
set_option maxHeartbeats 0
namespace K99
open MP PySem
def rows2 : List D := [(rw3 0 0 2), (rw3 0 1 1), (rw3 0 2 0), (rw3 1 0 1), (rw3 1 1 0), (rw3 2 0 0)]
def lad2 : D := (.tup [(.tup [(.str ⟨#[114, 111, 119, 115]⟩), (.int 216)]), (.tup [(.str ⟨#[108, 105, 110, 101, 115]⟩), (.int 21)]), (.tup [(.str ⟨#[101, 118, 101, 110]⟩), (.int 0)]), (.tup [(.str ⟨#[98, 114, 111, 107, 101, 110]⟩), (.int 0)])])
def ev2 : List D := []
def sh2 : List D := [(sq 0 0 2 0 2 0 2 0 0), (sq 0 0 2 1 1 0 1 1 0), (sq 0 0 2 2 0 0 0 2 0), (sq 0 1 1 0 1 1 2 0 0), (sq 0 1 1 1 0 1 1 1 0), (sq 0 1 1 1 1 0 1 0 1), (sq 0 1 1 2 0 0 0 1 1), (sq 0 2 0 0 0 2 2 0 0), (sq 0 2 0 1 0 1 1 0 1), (sq 0 2 0 2 0 0 0 0 2), (sq 1 0 1 0 1 1 1 1 0), (sq 1 0 1 0 2 0 1 0 1), (sq 1 0 1 1 0 1 0 2 0), (sq 1 0 1 1 1 0 0 1 1), (sq 1 1 0 0 0 2 1 1 0), (sq 1 1 0 0 1 1 1 0 1), (sq 1 1 0 1 0 1 0 1 1), (sq 1 1 0 1 1 0 0 0 2), (sq 2 0 0 0 0 2 0 2 0), (sq 2 0 0 0 1 1 0 1 1), (sq 2 0 0 0 2 0 0 0 2)]
def en2 (x : Option D) : En := [x, some (.ref 1), some (.int 2), some (.lst rows2), some (rw3 2 0 0), some lad2, none, none, none, none, some (.ref 2), some (.ref 3), some (.int 0), some (rw3 2 0 0), none, none, none, none, some (rw3 (-2) 2 2), none, none, none, none, none]
def ena2 (x : Option D) : En := [x, some (.ref 1), some (.int 2), some (.lst rows2), some (rw3 2 0 0), none, none, none, none, none, some (.ref 2), some (.ref 3), some (.int 0), some (rw3 2 0 0), none, none, none, none, some (rw3 (-2) 2 2), none, none, none, none, none]
def stE2 (x one other last : Option D) (brk : Int) : En := [x, some (.ref 1), some (.int 2), some (.lst rows2), one, none, none, none, none, none, some (.ref 2), some (.ref 3), some (.int brk), other, none, none, none, none, last, none, none, none, none, none]
def stH2 (cells : List Int) (m c : Int) (i j : Nat) : Hh := pot cells m c [.lst (sh2.take i), .lst (ev2.take j)]
theorem pre2 (x : Option D) (cells : List Int) (m c : Int) : dSs (runF cs fds 11) cs mid0 [x, some (.ref 1), some (.int 2), none, none, none, none, none, none, none, none, none, none, none, none, none, none, none, none, none, none, none, none, none] (pot cells m c []) = .ok (.nx (stE2 x none none none 0)) (stH2 cells m c 0 0) := by
  rw [run_q, q_mid0_eq]
  kernel_rfl
theorem tn2_0 (x : Option D) (cells : List Int) (m c : Int) : stepA (rw3 0 0 2) (stE2 x none none none 0) (stH2 cells m c 0 0) = .ok (.nx (stE2 x (some (rw3 0 0 2)) (some (rw3 2 0 0)) (some (rw3 0 2 0)) 0)) (stH2 cells m c 3 0) := by
  rw [stepA_eq]
  kernel_rfl
theorem tn2_1 (x : Option D) (cells : List Int) (m c : Int) : stepA (rw3 0 1 1) (stE2 x (some (rw3 0 0 2)) (some (rw3 2 0 0)) (some (rw3 0 2 0)) 0) (stH2 cells m c 3 0) = .ok (.nx (stE2 x (some (rw3 0 1 1)) (some (rw3 2 0 0)) (some (rw3 0 1 1)) 0)) (stH2 cells m c 7 0) := by
  rw [stepA_eq]
  kernel_rfl
theorem tn2_2 (x : Option D) (cells : List Int) (m c : Int) : stepA (rw3 0 2 0) (stE2 x (some (rw3 0 1 1)) (some (rw3 2 0 0)) (some (rw3 0 1 1)) 0) (stH2 cells m c 7 0) = .ok (.nx (stE2 x (some (rw3 0 2 0)) (some (rw3 2 0 0)) (some (rw3 0 0 2)) 0)) (stH2 cells m c 10 0) := by
  rw [stepA_eq]
  kernel_rfl
theorem tn2_3 (x : Option D) (cells : List Int) (m c : Int) : stepA (rw3 1 0 1) (stE2 x (some (rw3 0 2 0)) (some (rw3 2 0 0)) (some (rw3 0 0 2)) 0) (stH2 cells m c 10 0) = .ok (.nx (stE2 x (some (rw3 1 0 1)) (some (rw3 2 0 0)) (some (rw3 (-1) 2 1)) 0)) (stH2 cells m c 14 0) := by
  rw [stepA_eq]
  kernel_rfl
theorem tn2_4 (x : Option D) (cells : List Int) (m c : Int) : stepA (rw3 1 1 0) (stE2 x (some (rw3 1 0 1)) (some (rw3 2 0 0)) (some (rw3 (-1) 2 1)) 0) (stH2 cells m c 14 0) = .ok (.nx (stE2 x (some (rw3 1 1 0)) (some (rw3 2 0 0)) (some (rw3 (-1) 1 2)) 0)) (stH2 cells m c 18 0) := by
  rw [stepA_eq]
  kernel_rfl
theorem tn2_5 (x : Option D) (cells : List Int) (m c : Int) : stepA (rw3 2 0 0) (stE2 x (some (rw3 1 1 0)) (some (rw3 2 0 0)) (some (rw3 (-1) 1 2)) 0) (stH2 cells m c 18 0) = .ok (.nx (stE2 x (some (rw3 2 0 0)) (some (rw3 2 0 0)) (some (rw3 (-2) 2 2)) 0)) (stH2 cells m c 21 0) := by
  rw [stepA_eq]
  kernel_rfl
def turns2 (x : Option D) (cells : List Int) (m c : Int) : List Turn := [((rw3 0 0 2), stE2 x (some (rw3 0 0 2)) (some (rw3 2 0 0)) (some (rw3 0 2 0)) 0, stH2 cells m c 3 0), ((rw3 0 1 1), stE2 x (some (rw3 0 1 1)) (some (rw3 2 0 0)) (some (rw3 0 1 1)) 0, stH2 cells m c 7 0), ((rw3 0 2 0), stE2 x (some (rw3 0 2 0)) (some (rw3 2 0 0)) (some (rw3 0 0 2)) 0, stH2 cells m c 10 0), ((rw3 1 0 1), stE2 x (some (rw3 1 0 1)) (some (rw3 2 0 0)) (some (rw3 (-1) 2 1)) 0, stH2 cells m c 14 0), ((rw3 1 1 0), stE2 x (some (rw3 1 1 0)) (some (rw3 2 0 0)) (some (rw3 (-1) 1 2)) 0, stH2 cells m c 18 0), ((rw3 2 0 0), stE2 x (some (rw3 2 0 0)) (some (rw3 2 0 0)) (some (rw3 (-2) 2 2)) 0, stH2 cells m c 21 0)]
theorem mida2 (x : Option D) (cells : List Int) (m c : Int) : dSs (runF cs fds 11) cs midA [x, some (.ref 1), some (.int 2), none, none, none, none, none, none, none, none, none, none, none, none, none, none, none, none, none, none, none, none, none] (pot cells m c []) = .ok (.nx (ena2 x)) (pot cells m c [.lst sh2, .lst ev2]) :=
  (take_drop _ cs 2 midA _ _ _ _ (pre2 x cells m c)).trans (for4 _ _ _ rows2 (turns2 x cells m c) _ rfl (by kernel_rfl) (show 6 < FUEL from by decide) ⟨tn2_0 x cells m c, tn2_1 x cells m c, tn2_2 x cells m c, tn2_3 x cells m c, tn2_4 x cells m c, tn2_5 x cells m c, trivial⟩ (by kernel_rfl))
theorem midc2 (x : Option D) (cells : List Int) (m c : Int) : dSs (runF cs fds 11) cs midC (ena2 x) (pot cells m c [.lst sh2, .lst ev2]) = .ok (.nx (en2 x)) (pot cells m c [.lst sh2, .lst ev2]) := by
  rw [run_q, q_midC_eq]
  kernel_rfl
theorem f1_2 : runF cs fds 11 18 [.int 3, .int 2] [] = .ok (.d (.tup sh2)) [] := by
  rw [run_q]
  kernel_rfl
theorem g1_2 : runF cs fds 11 6 [.int 2] [] = .ok (.d (.tup ev2)) [] := by
  rw [run_q]
  kernel_rfl
theorem f2_2 (cells : List Int) (m c : Int) : biD .srt [.d (.ref 2)] (pot cells m c [.lst sh2, .lst ev2]) = some (.fl sh2) := by kernel_rfl
theorem g2_2 (cells : List Int) (m c : Int) : biD .srt [.d (.ref 3)] (pot cells m c [.lst sh2, .lst ev2]) = some (.fl ev2) := by kernel_rfl
theorem f4_2 (h : Hh) : eqD (.d (.tup sh2)) (.d (.tup sh2)) h = some true := by kernel_rfl
theorem g4_2 (h : Hh) : eqD (.d (.tup ev2)) (.d (.tup ev2)) h = some true := by kernel_rfl
theorem midb2 (x : Option D) (cells : List Int) (m c : Int) : dSs (runF cs fds 11) cs midB (ena2 x) (pot cells m c [.lst sh2, .lst ev2]) = .ok (.nx (en2 x)) (pot cells m c [.lst sh2, .lst ev2]) :=
  (take_drop _ cs 3 midB _ _ _ _ (midc2 x cells m c)).trans (last8 2 _ _ sh2 ev2 rfl rfl rfl f1_2 (f2_2 cells m c) (f4_2 _) g1_2 (g2_2 cells m c) (g4_2 _))
def enl2 (x a6 a14 a15 a16 a17 : Option D) : En := [x, some (.ref 1), some (.int 2), some (.lst rows2), some (rw3 2 0 0), some lad2, a6, none, none, none, some (.ref 2), some (.ref 3), some (.int 0), some (rw3 2 0 0), a14, a15, a16, a17, some (rw3 (-2) 2 2), none, none, none, none, none]
def tab2_0 : List (D × D × Bool × Bool × Bool) := [(sq 0 0 2 0 2 0 2 0 0, sq 0 0 2 0 2 0 2 0 0, false, false, true), (sq 0 0 2 1 1 0 1 1 0, sq 0 0 2 0 1 1 1 1 0, false, false, false), (sq 0 0 2 2 0 0 0 2 0, sq 0 0 2 0 0 2 0 2 0, false, false, false), (sq 0 1 1 0 1 1 2 0 0, sq 0 1 1 1 1 0 2 0 0, false, false, false), (sq 0 1 1 1 0 1 1 1 0, sq 0 1 1 1 0 1 1 1 0, false, false, true), (sq 0 1 1 1 1 0 1 0 1, sq 0 1 1 0 1 1 1 0 1, false, false, false), (sq 0 1 1 2 0 0 0 1 1, sq 0 1 1 0 0 2 0 1 1, false, false, false), (sq 0 2 0 0 0 2 2 0 0, sq 0 2 0 2 0 0 2 0 0, false, false, false), (sq 0 2 0 1 0 1 1 0 1, sq 0 2 0 1 0 1 1 0 1, false, false, true), (sq 0 2 0 2 0 0 0 0 2, sq 0 2 0 0 0 2 0 0 2, false, false, false), (sq 1 0 1 0 1 1 1 1 0, sq 1 0 1 1 1 0 1 1 0, false, false, false), (sq 1 0 1 0 2 0 1 0 1, sq 1 0 1 0 2 0 1 0 1, false, false, true), (sq 1 0 1 1 0 1 0 2 0, sq 1 0 1 1 0 1 0 2 0, false, false, true), (sq 1 0 1 1 1 0 0 1 1, sq 1 0 1 0 1 1 0 1 1, false, false, false), (sq 1 1 0 0 0 2 1 1 0, sq 1 1 0 2 0 0 1 1 0, false, false, false), (sq 1 1 0 0 1 1 1 0 1, sq 1 1 0 1 1 0 1 0 1, false, false, false)]
theorem body2_0 (x a6 a14 a15 a16 a17 : Option D) (cells : List Int) (m c : Int) : tab2_0.map (fun t => stepQ t.1 (enl2 x a6 a14 a15 a16 a17) (pot cells m c [.lst sh2, .lst ev2])) = tab2_0.map (fun t => .ok (.nx (enl2 x (some t.1) (some (.bl t.2.2.1)) (some (due t.2.2.1 t.2.2.2.1)) (some t.2.1) (some (.bl t.2.2.2.2)))) (pot cells m c [.lst sh2, .lst ev2])) := by kernel_rfl
def tab2_1 : List (D × D × Bool × Bool × Bool) := [(sq 1 1 0 1 0 1 0 1 1, sq 1 1 0 1 0 1 0 1 1, false, false, true), (sq 1 1 0 1 1 0 0 0 2, sq 1 1 0 0 1 1 0 0 2, false, false, false), (sq 2 0 0 0 0 2 0 2 0, sq 2 0 0 2 0 0 0 2 0, false, false, false), (sq 2 0 0 0 1 1 0 1 1, sq 2 0 0 1 1 0 0 1 1, false, false, false), (sq 2 0 0 0 2 0 0 0 2, sq 2 0 0 0 2 0 0 0 2, false, false, true)]
theorem body2_1 (x a6 a14 a15 a16 a17 : Option D) (cells : List Int) (m c : Int) : tab2_1.map (fun t => stepQ t.1 (enl2 x a6 a14 a15 a16 a17) (pot cells m c [.lst sh2, .lst ev2])) = tab2_1.map (fun t => .ok (.nx (enl2 x (some t.1) (some (.bl t.2.2.1)) (some (due t.2.2.1 t.2.2.2.1)) (some t.2.1) (some (.bl t.2.2.2.2)))) (pot cells m c [.lst sh2, .lst ev2])) := by kernel_rfl
def tab2 : List (D × D × Bool × Bool × Bool) := tab2_0 ++ (tab2_1)
theorem tabs2 : tab2.map (·.1) = sh2 := by kernel_rfl
theorem body2 (x a6 a14 a15 a16 a17 : Option D) (cells : List Int) (m c : Int) : tab2.map (fun t => stepL t.1 (enl2 x a6 a14 a15 a16 a17) (pot cells m c [.lst sh2, .lst ev2])) = tab2.map (fun t => .ok (.nx (enl2 x (some t.1) (some (.bl t.2.2.1)) (some (due t.2.2.1 t.2.2.2.1)) (some t.2.1) (some (.bl t.2.2.2.2)))) (pot cells m c [.lst sh2, .lst ev2])) := by
  rw [stepL_eq]
  unfold tab2
  simp only [List.map_append, body2_0 x a6 a14 a15 a16 a17 cells m c, body2_1 x a6 a14 a15 a16 a17 cells m c]
end K99
end

section
set_option Elab.async false
set_option linter.all false
set_option maxRecDepth 100000
set_option maxHeartbeats 0
namespace K99
open MP PySem
def rows3 : List D := [(rw3 0 0 3), (rw3 0 1 2), (rw3 0 2 1), (rw3 0 3 0), (rw3 1 0 2), (rw3 1 1 1), (rw3 1 2 0), (rw3 2 0 1), (rw3 2 1 0), (rw3 3 0 0)]
def lad3 : D := (.tup [(.tup [(.str ⟨#[114, 111, 119, 115]⟩), (.int 1000)]), (.tup [(.str ⟨#[108, 105, 110, 101, 115]⟩), (.int 55)]), (.tup [(.str ⟨#[101, 118, 101, 110]⟩), (.int 5)]), (.tup [(.str ⟨#[98, 114, 111, 107, 101, 110]⟩), (.int 1)])])
def ev3 : List D := [(sq 0 2 1 2 1 0 1 0 2), (sq 1 0 2 2 1 0 0 2 1), (sq 1 1 1 1 1 1 1 1 1), (sq 1 2 0 0 1 2 2 0 1), (sq 2 0 1 0 1 2 1 2 0)]
def sh3 : List D := [(sq 0 0 3 0 3 0 3 0 0), (sq 0 0 3 1 2 0 2 1 0), (sq 0 0 3 2 1 0 1 2 0), (sq 0 0 3 3 0 0 0 3 0), (sq 0 1 2 0 2 1 3 0 0), (sq 0 1 2 1 1 1 2 1 0), (sq 0 1 2 1 2 0 2 0 1), (sq 0 1 2 2 0 1 1 2 0), (sq 0 1 2 2 1 0 1 1 1), (sq 0 1 2 3 0 0 0 2 1), (sq 0 2 1 0 1 2 3 0 0), (sq 0 2 1 1 0 2 2 1 0), (sq 0 2 1 1 1 1 2 0 1), (sq 0 2 1 2 0 1 1 1 1), (sq 0 2 1 2 1 0 1 0 2), (sq 0 2 1 3 0 0 0 1 2), (sq 0 3 0 0 0 3 3 0 0), (sq 0 3 0 1 0 2 2 0 1), (sq 0 3 0 2 0 1 1 0 2), (sq 0 3 0 3 0 0 0 0 3), (sq 1 0 2 0 2 1 2 1 0), (sq 1 0 2 0 3 0 2 0 1), (sq 1 0 2 1 1 1 1 2 0), (sq 1 0 2 1 2 0 1 1 1), (sq 1 0 2 2 0 1 0 3 0), (sq 1 0 2 2 1 0 0 2 1), (sq 1 1 1 0 1 2 2 1 0), (sq 1 1 1 0 2 1 2 0 1), (sq 1 1 1 1 0 2 1 2 0), (sq 1 1 1 1 1 1 1 1 1), (sq 1 1 1 1 2 0 1 0 2), (sq 1 1 1 2 0 1 0 2 1), (sq 1 1 1 2 1 0 0 1 2), (sq 1 2 0 0 0 3 2 1 0), (sq 1 2 0 0 1 2 2 0 1), (sq 1 2 0 1 0 2 1 1 1), (sq 1 2 0 1 1 1 1 0 2), (sq 1 2 0 2 0 1 0 1 2), (sq 1 2 0 2 1 0 0 0 3), (sq 2 0 1 0 1 2 1 2 0), (sq 2 0 1 0 2 1 1 1 1), (sq 2 0 1 0 3 0 1 0 2), (sq 2 0 1 1 0 2 0 3 0), (sq 2 0 1 1 1 1 0 2 1), (sq 2 0 1 1 2 0 0 1 2), (sq 2 1 0 0 0 3 1 2 0), (sq 2 1 0 0 1 2 1 1 1), (sq 2 1 0 0 2 1 1 0 2), (sq 2 1 0 1 0 2 0 2 1), (sq 2 1 0 1 1 1 0 1 2), (sq 2 1 0 1 2 0 0 0 3), (sq 3 0 0 0 0 3 0 3 0), (sq 3 0 0 0 1 2 0 2 1), (sq 3 0 0 0 2 1 0 1 2), (sq 3 0 0 0 3 0 0 0 3)]
def en3 (x : Option D) : En := [x, some (.ref 1), some (.int 3), some (.lst rows3), some (rw3 3 0 0), some lad3, none, none, none, none, some (.ref 2), some (.ref 3), some (.int 1), some (rw3 3 0 0), none, none, none, none, some (rw3 (-3) 3 3), none, none, none, none, none]
def ena3 (x : Option D) : En := [x, some (.ref 1), some (.int 3), some (.lst rows3), some (rw3 3 0 0), none, none, none, none, none, some (.ref 2), some (.ref 3), some (.int 1), some (rw3 3 0 0), none, none, none, none, some (rw3 (-3) 3 3), none, none, none, none, none]
def stE3 (x one other last : Option D) (brk : Int) : En := [x, some (.ref 1), some (.int 3), some (.lst rows3), one, none, none, none, none, none, some (.ref 2), some (.ref 3), some (.int brk), other, none, none, none, none, last, none, none, none, none, none]
def stH3 (cells : List Int) (m c : Int) (i j : Nat) : Hh := pot cells m c [.lst (sh3.take i), .lst (ev3.take j)]
theorem pre3 (x : Option D) (cells : List Int) (m c : Int) : dSs (runF cs fds 11) cs mid0 [x, some (.ref 1), some (.int 3), none, none, none, none, none, none, none, none, none, none, none, none, none, none, none, none, none, none, none, none, none] (pot cells m c []) = .ok (.nx (stE3 x none none none 0)) (stH3 cells m c 0 0) := by
  rw [run_q, q_mid0_eq]
  kernel_rfl
theorem tn3_0 (x : Option D) (cells : List Int) (m c : Int) : stepA (rw3 0 0 3) (stE3 x none none none 0) (stH3 cells m c 0 0) = .ok (.nx (stE3 x (some (rw3 0 0 3)) (some (rw3 3 0 0)) (some (rw3 0 3 0)) 0)) (stH3 cells m c 4 0) := by
  rw [stepA_eq]
  kernel_rfl
theorem tn3_1 (x : Option D) (cells : List Int) (m c : Int) : stepA (rw3 0 1 2) (stE3 x (some (rw3 0 0 3)) (some (rw3 3 0 0)) (some (rw3 0 3 0)) 0) (stH3 cells m c 4 0) = .ok (.nx (stE3 x (some (rw3 0 1 2)) (some (rw3 3 0 0)) (some (rw3 0 2 1)) 0)) (stH3 cells m c 10 0) := by
  rw [stepA_eq]
  kernel_rfl
theorem tn3_2 (x : Option D) (cells : List Int) (m c : Int) : stepA (rw3 0 2 1) (stE3 x (some (rw3 0 1 2)) (some (rw3 3 0 0)) (some (rw3 0 2 1)) 0) (stH3 cells m c 10 0) = .ok (.nx (stE3 x (some (rw3 0 2 1)) (some (rw3 3 0 0)) (some (rw3 0 1 2)) 0)) (stH3 cells m c 16 1) := by
  rw [stepA_eq]
  kernel_rfl
theorem tn3_3 (x : Option D) (cells : List Int) (m c : Int) : stepA (rw3 0 3 0) (stE3 x (some (rw3 0 2 1)) (some (rw3 3 0 0)) (some (rw3 0 1 2)) 0) (stH3 cells m c 16 1) = .ok (.nx (stE3 x (some (rw3 0 3 0)) (some (rw3 3 0 0)) (some (rw3 0 0 3)) 0)) (stH3 cells m c 20 1) := by
  rw [stepA_eq]
  kernel_rfl
theorem tn3_4 (x : Option D) (cells : List Int) (m c : Int) : stepA (rw3 1 0 2) (stE3 x (some (rw3 0 3 0)) (some (rw3 3 0 0)) (some (rw3 0 0 3)) 0) (stH3 cells m c 20 1) = .ok (.nx (stE3 x (some (rw3 1 0 2)) (some (rw3 3 0 0)) (some (rw3 (-1) 3 1)) 0)) (stH3 cells m c 26 2) := by
  rw [stepA_eq]
  kernel_rfl
theorem tn3_5 (x : Option D) (cells : List Int) (m c : Int) : stepA (rw3 1 1 1) (stE3 x (some (rw3 1 0 2)) (some (rw3 3 0 0)) (some (rw3 (-1) 3 1)) 0) (stH3 cells m c 26 2) = .ok (.nx (stE3 x (some (rw3 1 1 1)) (some (rw3 3 0 0)) (some (rw3 (-1) 2 2)) 1)) (stH3 cells m c 33 3) := by
  rw [stepA_eq]
  kernel_rfl
theorem tn3_6 (x : Option D) (cells : List Int) (m c : Int) : stepA (rw3 1 2 0) (stE3 x (some (rw3 1 1 1)) (some (rw3 3 0 0)) (some (rw3 (-1) 2 2)) 1) (stH3 cells m c 33 3) = .ok (.nx (stE3 x (some (rw3 1 2 0)) (some (rw3 3 0 0)) (some (rw3 (-1) 1 3)) 1)) (stH3 cells m c 39 4) := by
  rw [stepA_eq]
  kernel_rfl
theorem tn3_7 (x : Option D) (cells : List Int) (m c : Int) : stepA (rw3 2 0 1) (stE3 x (some (rw3 1 2 0)) (some (rw3 3 0 0)) (some (rw3 (-1) 1 3)) 1) (stH3 cells m c 39 4) = .ok (.nx (stE3 x (some (rw3 2 0 1)) (some (rw3 3 0 0)) (some (rw3 (-2) 3 2)) 1)) (stH3 cells m c 45 5) := by
  rw [stepA_eq]
  kernel_rfl
theorem tn3_8 (x : Option D) (cells : List Int) (m c : Int) : stepA (rw3 2 1 0) (stE3 x (some (rw3 2 0 1)) (some (rw3 3 0 0)) (some (rw3 (-2) 3 2)) 1) (stH3 cells m c 45 5) = .ok (.nx (stE3 x (some (rw3 2 1 0)) (some (rw3 3 0 0)) (some (rw3 (-2) 2 3)) 1)) (stH3 cells m c 51 5) := by
  rw [stepA_eq]
  kernel_rfl
theorem tn3_9 (x : Option D) (cells : List Int) (m c : Int) : stepA (rw3 3 0 0) (stE3 x (some (rw3 2 1 0)) (some (rw3 3 0 0)) (some (rw3 (-2) 2 3)) 1) (stH3 cells m c 51 5) = .ok (.nx (stE3 x (some (rw3 3 0 0)) (some (rw3 3 0 0)) (some (rw3 (-3) 3 3)) 1)) (stH3 cells m c 55 5) := by
  rw [stepA_eq]
  kernel_rfl
def turns3 (x : Option D) (cells : List Int) (m c : Int) : List Turn := [((rw3 0 0 3), stE3 x (some (rw3 0 0 3)) (some (rw3 3 0 0)) (some (rw3 0 3 0)) 0, stH3 cells m c 4 0), ((rw3 0 1 2), stE3 x (some (rw3 0 1 2)) (some (rw3 3 0 0)) (some (rw3 0 2 1)) 0, stH3 cells m c 10 0), ((rw3 0 2 1), stE3 x (some (rw3 0 2 1)) (some (rw3 3 0 0)) (some (rw3 0 1 2)) 0, stH3 cells m c 16 1), ((rw3 0 3 0), stE3 x (some (rw3 0 3 0)) (some (rw3 3 0 0)) (some (rw3 0 0 3)) 0, stH3 cells m c 20 1), ((rw3 1 0 2), stE3 x (some (rw3 1 0 2)) (some (rw3 3 0 0)) (some (rw3 (-1) 3 1)) 0, stH3 cells m c 26 2), ((rw3 1 1 1), stE3 x (some (rw3 1 1 1)) (some (rw3 3 0 0)) (some (rw3 (-1) 2 2)) 1, stH3 cells m c 33 3), ((rw3 1 2 0), stE3 x (some (rw3 1 2 0)) (some (rw3 3 0 0)) (some (rw3 (-1) 1 3)) 1, stH3 cells m c 39 4), ((rw3 2 0 1), stE3 x (some (rw3 2 0 1)) (some (rw3 3 0 0)) (some (rw3 (-2) 3 2)) 1, stH3 cells m c 45 5), ((rw3 2 1 0), stE3 x (some (rw3 2 1 0)) (some (rw3 3 0 0)) (some (rw3 (-2) 2 3)) 1, stH3 cells m c 51 5), ((rw3 3 0 0), stE3 x (some (rw3 3 0 0)) (some (rw3 3 0 0)) (some (rw3 (-3) 3 3)) 1, stH3 cells m c 55 5)]
theorem mida3 (x : Option D) (cells : List Int) (m c : Int) : dSs (runF cs fds 11) cs midA [x, some (.ref 1), some (.int 3), none, none, none, none, none, none, none, none, none, none, none, none, none, none, none, none, none, none, none, none, none] (pot cells m c []) = .ok (.nx (ena3 x)) (pot cells m c [.lst sh3, .lst ev3]) :=
  (take_drop _ cs 2 midA _ _ _ _ (pre3 x cells m c)).trans (for4 _ _ _ rows3 (turns3 x cells m c) _ rfl (by kernel_rfl) (show 10 < FUEL from by decide) ⟨tn3_0 x cells m c, tn3_1 x cells m c, tn3_2 x cells m c, tn3_3 x cells m c, tn3_4 x cells m c, tn3_5 x cells m c, tn3_6 x cells m c, tn3_7 x cells m c, tn3_8 x cells m c, tn3_9 x cells m c, trivial⟩ (by kernel_rfl))
theorem midc3 (x : Option D) (cells : List Int) (m c : Int) : dSs (runF cs fds 11) cs midC (ena3 x) (pot cells m c [.lst sh3, .lst ev3]) = .ok (.nx (en3 x)) (pot cells m c [.lst sh3, .lst ev3]) := by
  rw [run_q, q_midC_eq]
  kernel_rfl
theorem f1_3 : runF cs fds 11 18 [.int 3, .int 3] [] = .ok (.d (.tup sh3)) [] := by
  rw [run_q]
  kernel_rfl
theorem g1_3 : runF cs fds 11 6 [.int 3] [] = .ok (.d (.tup ev3)) [] := by
  rw [run_q]
  kernel_rfl
theorem f2_3 (cells : List Int) (m c : Int) : biD .srt [.d (.ref 2)] (pot cells m c [.lst sh3, .lst ev3]) = some (.fl sh3) := by kernel_rfl
theorem g2_3 (cells : List Int) (m c : Int) : biD .srt [.d (.ref 3)] (pot cells m c [.lst sh3, .lst ev3]) = some (.fl ev3) := by kernel_rfl
theorem f4_3 (h : Hh) : eqD (.d (.tup sh3)) (.d (.tup sh3)) h = some true := by kernel_rfl
theorem g4_3 (h : Hh) : eqD (.d (.tup ev3)) (.d (.tup ev3)) h = some true := by kernel_rfl
theorem midb3 (x : Option D) (cells : List Int) (m c : Int) : dSs (runF cs fds 11) cs midB (ena3 x) (pot cells m c [.lst sh3, .lst ev3]) = .ok (.nx (en3 x)) (pot cells m c [.lst sh3, .lst ev3]) :=
  (take_drop _ cs 3 midB _ _ _ _ (midc3 x cells m c)).trans (last8 3 _ _ sh3 ev3 rfl rfl rfl f1_3 (f2_3 cells m c) (f4_3 _) g1_3 (g2_3 cells m c) (g4_3 _))
def enl3 (x a6 a14 a15 a16 a17 : Option D) : En := [x, some (.ref 1), some (.int 3), some (.lst rows3), some (rw3 3 0 0), some lad3, a6, none, none, none, some (.ref 2), some (.ref 3), some (.int 1), some (rw3 3 0 0), a14, a15, a16, a17, some (rw3 (-3) 3 3), none, none, none, none, none]
def tab3_0 : List (D × D × Bool × Bool × Bool) := [(sq 0 0 3 0 3 0 3 0 0, sq 0 0 3 0 3 0 3 0 0, false, false, true), (sq 0 0 3 1 2 0 2 1 0, sq 0 0 3 0 2 1 2 1 0, false, false, false), (sq 0 0 3 2 1 0 1 2 0, sq 0 0 3 0 1 2 1 2 0, false, false, false), (sq 0 0 3 3 0 0 0 3 0, sq 0 0 3 0 0 3 0 3 0, false, false, false), (sq 0 1 2 0 2 1 3 0 0, sq 0 1 2 1 2 0 3 0 0, false, false, false), (sq 0 1 2 1 1 1 2 1 0, sq 0 1 2 1 1 1 2 1 0, false, false, true), (sq 0 1 2 1 2 0 2 0 1, sq 0 1 2 0 2 1 2 0 1, false, false, false), (sq 0 1 2 2 0 1 1 2 0, sq 0 1 2 1 0 2 1 2 0, false, false, false), (sq 0 1 2 2 1 0 1 1 1, sq 0 1 2 0 1 2 1 1 1, false, false, false), (sq 0 1 2 3 0 0 0 2 1, sq 0 1 2 0 0 3 0 2 1, false, false, false), (sq 0 2 1 0 1 2 3 0 0, sq 0 2 1 2 1 0 3 0 0, false, false, false), (sq 0 2 1 1 0 2 2 1 0, sq 0 2 1 2 0 1 2 1 0, false, false, false), (sq 0 2 1 1 1 1 2 0 1, sq 0 2 1 1 1 1 2 0 1, false, false, true), (sq 0 2 1 2 0 1 1 1 1, sq 0 2 1 1 0 2 1 1 1, false, false, false), (sq 0 2 1 2 1 0 1 0 2, sq 0 2 1 0 1 2 1 0 2, true, false, false), (sq 0 2 1 3 0 0 0 1 2, sq 0 2 1 0 0 3 0 1 2, false, false, false)]
theorem body3_0 (x a6 a14 a15 a16 a17 : Option D) (cells : List Int) (m c : Int) : tab3_0.map (fun t => stepQ t.1 (enl3 x a6 a14 a15 a16 a17) (pot cells m c [.lst sh3, .lst ev3])) = tab3_0.map (fun t => .ok (.nx (enl3 x (some t.1) (some (.bl t.2.2.1)) (some (due t.2.2.1 t.2.2.2.1)) (some t.2.1) (some (.bl t.2.2.2.2)))) (pot cells m c [.lst sh3, .lst ev3])) := by kernel_rfl
def tab3_1 : List (D × D × Bool × Bool × Bool) := [(sq 0 3 0 0 0 3 3 0 0, sq 0 3 0 3 0 0 3 0 0, false, false, false), (sq 0 3 0 1 0 2 2 0 1, sq 0 3 0 2 0 1 2 0 1, false, false, false), (sq 0 3 0 2 0 1 1 0 2, sq 0 3 0 1 0 2 1 0 2, false, false, false), (sq 0 3 0 3 0 0 0 0 3, sq 0 3 0 0 0 3 0 0 3, false, false, false), (sq 1 0 2 0 2 1 2 1 0, sq 1 0 2 1 2 0 2 1 0, false, false, false), (sq 1 0 2 0 3 0 2 0 1, sq 1 0 2 0 3 0 2 0 1, false, false, true), (sq 1 0 2 1 1 1 1 2 0, sq 1 0 2 1 1 1 1 2 0, false, false, true), (sq 1 0 2 1 2 0 1 1 1, sq 1 0 2 0 2 1 1 1 1, false, false, false), (sq 1 0 2 2 0 1 0 3 0, sq 1 0 2 1 0 2 0 3 0, false, false, false), (sq 1 0 2 2 1 0 0 2 1, sq 1 0 2 0 1 2 0 2 1, true, false, false), (sq 1 1 1 0 1 2 2 1 0, sq 1 1 1 2 1 0 2 1 0, false, false, false), (sq 1 1 1 0 2 1 2 0 1, sq 1 1 1 1 2 0 2 0 1, false, false, false), (sq 1 1 1 1 0 2 1 2 0, sq 1 1 1 2 0 1 1 2 0, false, false, false), (sq 1 1 1 1 1 1 1 1 1, sq 1 1 1 1 1 1 1 1 1, true, true, true), (sq 1 1 1 1 2 0 1 0 2, sq 1 1 1 0 2 1 1 0 2, false, false, false), (sq 1 1 1 2 0 1 0 2 1, sq 1 1 1 1 0 2 0 2 1, false, false, false)]
theorem body3_1 (x a6 a14 a15 a16 a17 : Option D) (cells : List Int) (m c : Int) : tab3_1.map (fun t => stepQ t.1 (enl3 x a6 a14 a15 a16 a17) (pot cells m c [.lst sh3, .lst ev3])) = tab3_1.map (fun t => .ok (.nx (enl3 x (some t.1) (some (.bl t.2.2.1)) (some (due t.2.2.1 t.2.2.2.1)) (some t.2.1) (some (.bl t.2.2.2.2)))) (pot cells m c [.lst sh3, .lst ev3])) := by kernel_rfl
def tab3_2 : List (D × D × Bool × Bool × Bool) := [(sq 1 1 1 2 1 0 0 1 2, sq 1 1 1 0 1 2 0 1 2, false, false, false), (sq 1 2 0 0 0 3 2 1 0, sq 1 2 0 3 0 0 2 1 0, false, false, false), (sq 1 2 0 0 1 2 2 0 1, sq 1 2 0 2 1 0 2 0 1, true, false, false), (sq 1 2 0 1 0 2 1 1 1, sq 1 2 0 2 0 1 1 1 1, false, false, false), (sq 1 2 0 1 1 1 1 0 2, sq 1 2 0 1 1 1 1 0 2, false, false, true), (sq 1 2 0 2 0 1 0 1 2, sq 1 2 0 1 0 2 0 1 2, false, false, false), (sq 1 2 0 2 1 0 0 0 3, sq 1 2 0 0 1 2 0 0 3, false, false, false), (sq 2 0 1 0 1 2 1 2 0, sq 2 0 1 2 1 0 1 2 0, true, false, false), (sq 2 0 1 0 2 1 1 1 1, sq 2 0 1 1 2 0 1 1 1, false, false, false), (sq 2 0 1 0 3 0 1 0 2, sq 2 0 1 0 3 0 1 0 2, false, false, true), (sq 2 0 1 1 0 2 0 3 0, sq 2 0 1 2 0 1 0 3 0, false, false, false), (sq 2 0 1 1 1 1 0 2 1, sq 2 0 1 1 1 1 0 2 1, false, false, true), (sq 2 0 1 1 2 0 0 1 2, sq 2 0 1 0 2 1 0 1 2, false, false, false), (sq 2 1 0 0 0 3 1 2 0, sq 2 1 0 3 0 0 1 2 0, false, false, false), (sq 2 1 0 0 1 2 1 1 1, sq 2 1 0 2 1 0 1 1 1, false, false, false), (sq 2 1 0 0 2 1 1 0 2, sq 2 1 0 1 2 0 1 0 2, false, false, false)]
theorem body3_2 (x a6 a14 a15 a16 a17 : Option D) (cells : List Int) (m c : Int) : tab3_2.map (fun t => stepQ t.1 (enl3 x a6 a14 a15 a16 a17) (pot cells m c [.lst sh3, .lst ev3])) = tab3_2.map (fun t => .ok (.nx (enl3 x (some t.1) (some (.bl t.2.2.1)) (some (due t.2.2.1 t.2.2.2.1)) (some t.2.1) (some (.bl t.2.2.2.2)))) (pot cells m c [.lst sh3, .lst ev3])) := by kernel_rfl
def tab3_3 : List (D × D × Bool × Bool × Bool) := [(sq 2 1 0 1 0 2 0 2 1, sq 2 1 0 2 0 1 0 2 1, false, false, false), (sq 2 1 0 1 1 1 0 1 2, sq 2 1 0 1 1 1 0 1 2, false, false, true), (sq 2 1 0 1 2 0 0 0 3, sq 2 1 0 0 2 1 0 0 3, false, false, false), (sq 3 0 0 0 0 3 0 3 0, sq 3 0 0 3 0 0 0 3 0, false, false, false), (sq 3 0 0 0 1 2 0 2 1, sq 3 0 0 2 1 0 0 2 1, false, false, false), (sq 3 0 0 0 2 1 0 1 2, sq 3 0 0 1 2 0 0 1 2, false, false, false), (sq 3 0 0 0 3 0 0 0 3, sq 3 0 0 0 3 0 0 0 3, false, false, true)]
theorem body3_3 (x a6 a14 a15 a16 a17 : Option D) (cells : List Int) (m c : Int) : tab3_3.map (fun t => stepQ t.1 (enl3 x a6 a14 a15 a16 a17) (pot cells m c [.lst sh3, .lst ev3])) = tab3_3.map (fun t => .ok (.nx (enl3 x (some t.1) (some (.bl t.2.2.1)) (some (due t.2.2.1 t.2.2.2.1)) (some t.2.1) (some (.bl t.2.2.2.2)))) (pot cells m c [.lst sh3, .lst ev3])) := by kernel_rfl
def tab3 : List (D × D × Bool × Bool × Bool) := tab3_0 ++ (tab3_1 ++ (tab3_2 ++ (tab3_3)))
theorem tabs3 : tab3.map (·.1) = sh3 := by kernel_rfl
theorem body3 (x a6 a14 a15 a16 a17 : Option D) (cells : List Int) (m c : Int) : tab3.map (fun t => stepL t.1 (enl3 x a6 a14 a15 a16 a17) (pot cells m c [.lst sh3, .lst ev3])) = tab3.map (fun t => .ok (.nx (enl3 x (some t.1) (some (.bl t.2.2.1)) (some (due t.2.2.1 t.2.2.2.1)) (some t.2.1) (some (.bl t.2.2.2.2)))) (pot cells m c [.lst sh3, .lst ev3])) := by
  rw [stepL_eq]
  unfold tab3
  simp only [List.map_append, body3_0 x a6 a14 a15 a16 a17 cells m c, body3_1 x a6 a14 a15 a16 a17 cells m c, body3_2 x a6 a14 a15 a16 a17 cells m c, body3_3 x a6 a14 a15 a16 a17 cells m c]
end K99
end

section
set_option Elab.async false
set_option linter.all false
set_option maxRecDepth 100000
set_option maxHeartbeats 0
namespace K99
open MP PySem
def rows4 : List D := [(rw3 0 0 4), (rw3 0 1 3), (rw3 0 2 2), (rw3 0 3 1), (rw3 0 4 0), (rw3 1 0 3), (rw3 1 1 2), (rw3 1 2 1), (rw3 1 3 0), (rw3 2 0 2), (rw3 2 1 1), (rw3 2 2 0), (rw3 3 0 1), (rw3 3 1 0), (rw3 4 0 0)]
def lad4 : D := (.tup [(.tup [(.str ⟨#[114, 111, 119, 115]⟩), (.int 3375)]), (.tup [(.str ⟨#[108, 105, 110, 101, 115]⟩), (.int 120)]), (.tup [(.str ⟨#[101, 118, 101, 110]⟩), (.int 0)]), (.tup [(.str ⟨#[98, 114, 111, 107, 101, 110]⟩), (.int 0)])])
def ev4 : List D := []
def sh4 : List D := [(sq 0 0 4 0 4 0 4 0 0), (sq 0 0 4 1 3 0 3 1 0), (sq 0 0 4 2 2 0 2 2 0), (sq 0 0 4 3 1 0 1 3 0), (sq 0 0 4 4 0 0 0 4 0), (sq 0 1 3 0 3 1 4 0 0), (sq 0 1 3 1 2 1 3 1 0), (sq 0 1 3 1 3 0 3 0 1), (sq 0 1 3 2 1 1 2 2 0), (sq 0 1 3 2 2 0 2 1 1), (sq 0 1 3 3 0 1 1 3 0), (sq 0 1 3 3 1 0 1 2 1), (sq 0 1 3 4 0 0 0 3 1), (sq 0 2 2 0 2 2 4 0 0), (sq 0 2 2 1 1 2 3 1 0), (sq 0 2 2 1 2 1 3 0 1), (sq 0 2 2 2 0 2 2 2 0), (sq 0 2 2 2 1 1 2 1 1), (sq 0 2 2 2 2 0 2 0 2), (sq 0 2 2 3 0 1 1 2 1), (sq 0 2 2 3 1 0 1 1 2), (sq 0 2 2 4 0 0 0 2 2), (sq 0 3 1 0 1 3 4 0 0), (sq 0 3 1 1 0 3 3 1 0), (sq 0 3 1 1 1 2 3 0 1), (sq 0 3 1 2 0 2 2 1 1), (sq 0 3 1 2 1 1 2 0 2), (sq 0 3 1 3 0 1 1 1 2), (sq 0 3 1 3 1 0 1 0 3), (sq 0 3 1 4 0 0 0 1 3), (sq 0 4 0 0 0 4 4 0 0), (sq 0 4 0 1 0 3 3 0 1), (sq 0 4 0 2 0 2 2 0 2), (sq 0 4 0 3 0 1 1 0 3), (sq 0 4 0 4 0 0 0 0 4), (sq 1 0 3 0 3 1 3 1 0), (sq 1 0 3 0 4 0 3 0 1), (sq 1 0 3 1 2 1 2 2 0), (sq 1 0 3 1 3 0 2 1 1), (sq 1 0 3 2 1 1 1 3 0), (sq 1 0 3 2 2 0 1 2 1), (sq 1 0 3 3 0 1 0 4 0), (sq 1 0 3 3 1 0 0 3 1), (sq 1 1 2 0 2 2 3 1 0), (sq 1 1 2 0 3 1 3 0 1), (sq 1 1 2 1 1 2 2 2 0), (sq 1 1 2 1 2 1 2 1 1), (sq 1 1 2 1 3 0 2 0 2), (sq 1 1 2 2 0 2 1 3 0), (sq 1 1 2 2 1 1 1 2 1), (sq 1 1 2 2 2 0 1 1 2), (sq 1 1 2 3 0 1 0 3 1), (sq 1 1 2 3 1 0 0 2 2), (sq 1 2 1 0 1 3 3 1 0), (sq 1 2 1 0 2 2 3 0 1), (sq 1 2 1 1 0 3 2 2 0), (sq 1 2 1 1 1 2 2 1 1), (sq 1 2 1 1 2 1 2 0 2), (sq 1 2 1 2 0 2 1 2 1), (sq 1 2 1 2 1 1 1 1 2), (sq 1 2 1 2 2 0 1 0 3), (sq 1 2 1 3 0 1 0 2 2), (sq 1 2 1 3 1 0 0 1 3), (sq 1 3 0 0 0 4 3 1 0), (sq 1 3 0 0 1 3 3 0 1), (sq 1 3 0 1 0 3 2 1 1), (sq 1 3 0 1 1 2 2 0 2), (sq 1 3 0 2 0 2 1 1 2), (sq 1 3 0 2 1 1 1 0 3), (sq 1 3 0 3 0 1 0 1 3), (sq 1 3 0 3 1 0 0 0 4), (sq 2 0 2 0 2 2 2 2 0), (sq 2 0 2 0 3 1 2 1 1), (sq 2 0 2 0 4 0 2 0 2), (sq 2 0 2 1 1 2 1 3 0), (sq 2 0 2 1 2 1 1 2 1), (sq 2 0 2 1 3 0 1 1 2), (sq 2 0 2 2 0 2 0 4 0), (sq 2 0 2 2 1 1 0 3 1), (sq 2 0 2 2 2 0 0 2 2), (sq 2 1 1 0 1 3 2 2 0), (sq 2 1 1 0 2 2 2 1 1), (sq 2 1 1 0 3 1 2 0 2), (sq 2 1 1 1 0 3 1 3 0), (sq 2 1 1 1 1 2 1 2 1), (sq 2 1 1 1 2 1 1 1 2), (sq 2 1 1 1 3 0 1 0 3), (sq 2 1 1 2 0 2 0 3 1), (sq 2 1 1 2 1 1 0 2 2), (sq 2 1 1 2 2 0 0 1 3), (sq 2 2 0 0 0 4 2 2 0), (sq 2 2 0 0 1 3 2 1 1), (sq 2 2 0 0 2 2 2 0 2), (sq 2 2 0 1 0 3 1 2 1), (sq 2 2 0 1 1 2 1 1 2), (sq 2 2 0 1 2 1 1 0 3), (sq 2 2 0 2 0 2 0 2 2), (sq 2 2 0 2 1 1 0 1 3), (sq 2 2 0 2 2 0 0 0 4), (sq 3 0 1 0 1 3 1 3 0), (sq 3 0 1 0 2 2 1 2 1), (sq 3 0 1 0 3 1 1 1 2), (sq 3 0 1 0 4 0 1 0 3), (sq 3 0 1 1 0 3 0 4 0), (sq 3 0 1 1 1 2 0 3 1), (sq 3 0 1 1 2 1 0 2 2), (sq 3 0 1 1 3 0 0 1 3), (sq 3 1 0 0 0 4 1 3 0), (sq 3 1 0 0 1 3 1 2 1), (sq 3 1 0 0 2 2 1 1 2), (sq 3 1 0 0 3 1 1 0 3), (sq 3 1 0 1 0 3 0 3 1), (sq 3 1 0 1 1 2 0 2 2), (sq 3 1 0 1 2 1 0 1 3), (sq 3 1 0 1 3 0 0 0 4), (sq 4 0 0 0 0 4 0 4 0), (sq 4 0 0 0 1 3 0 3 1), (sq 4 0 0 0 2 2 0 2 2), (sq 4 0 0 0 3 1 0 1 3), (sq 4 0 0 0 4 0 0 0 4)]
def en4 (x : Option D) : En := [x, some (.ref 1), some (.int 4), some (.lst rows4), some (rw3 4 0 0), some lad4, none, none, none, none, some (.ref 2), some (.ref 3), some (.int 0), some (rw3 4 0 0), none, none, none, none, some (rw3 (-4) 4 4), none, none, none, none, none]
def ena4 (x : Option D) : En := [x, some (.ref 1), some (.int 4), some (.lst rows4), some (rw3 4 0 0), none, none, none, none, none, some (.ref 2), some (.ref 3), some (.int 0), some (rw3 4 0 0), none, none, none, none, some (rw3 (-4) 4 4), none, none, none, none, none]
def stE4 (x one other last : Option D) (brk : Int) : En := [x, some (.ref 1), some (.int 4), some (.lst rows4), one, none, none, none, none, none, some (.ref 2), some (.ref 3), some (.int brk), other, none, none, none, none, last, none, none, none, none, none]
def stH4 (cells : List Int) (m c : Int) (i j : Nat) : Hh := pot cells m c [.lst (sh4.take i), .lst (ev4.take j)]
theorem pre4 (x : Option D) (cells : List Int) (m c : Int) : dSs (runF cs fds 11) cs mid0 [x, some (.ref 1), some (.int 4), none, none, none, none, none, none, none, none, none, none, none, none, none, none, none, none, none, none, none, none, none] (pot cells m c []) = .ok (.nx (stE4 x none none none 0)) (stH4 cells m c 0 0) := by
  rw [run_q, q_mid0_eq]
  kernel_rfl
theorem tn4_0 (x : Option D) (cells : List Int) (m c : Int) : stepA (rw3 0 0 4) (stE4 x none none none 0) (stH4 cells m c 0 0) = .ok (.nx (stE4 x (some (rw3 0 0 4)) (some (rw3 4 0 0)) (some (rw3 0 4 0)) 0)) (stH4 cells m c 5 0) := by
  rw [stepA_eq]
  kernel_rfl
theorem tn4_1 (x : Option D) (cells : List Int) (m c : Int) : stepA (rw3 0 1 3) (stE4 x (some (rw3 0 0 4)) (some (rw3 4 0 0)) (some (rw3 0 4 0)) 0) (stH4 cells m c 5 0) = .ok (.nx (stE4 x (some (rw3 0 1 3)) (some (rw3 4 0 0)) (some (rw3 0 3 1)) 0)) (stH4 cells m c 13 0) := by
  rw [stepA_eq]
  kernel_rfl
theorem tn4_2 (x : Option D) (cells : List Int) (m c : Int) : stepA (rw3 0 2 2) (stE4 x (some (rw3 0 1 3)) (some (rw3 4 0 0)) (some (rw3 0 3 1)) 0) (stH4 cells m c 13 0) = .ok (.nx (stE4 x (some (rw3 0 2 2)) (some (rw3 4 0 0)) (some (rw3 0 2 2)) 0)) (stH4 cells m c 22 0) := by
  rw [stepA_eq]
  kernel_rfl
theorem tn4_3 (x : Option D) (cells : List Int) (m c : Int) : stepA (rw3 0 3 1) (stE4 x (some (rw3 0 2 2)) (some (rw3 4 0 0)) (some (rw3 0 2 2)) 0) (stH4 cells m c 22 0) = .ok (.nx (stE4 x (some (rw3 0 3 1)) (some (rw3 4 0 0)) (some (rw3 0 1 3)) 0)) (stH4 cells m c 30 0) := by
  rw [stepA_eq]
  kernel_rfl
theorem tn4_4 (x : Option D) (cells : List Int) (m c : Int) : stepA (rw3 0 4 0) (stE4 x (some (rw3 0 3 1)) (some (rw3 4 0 0)) (some (rw3 0 1 3)) 0) (stH4 cells m c 30 0) = .ok (.nx (stE4 x (some (rw3 0 4 0)) (some (rw3 4 0 0)) (some (rw3 0 0 4)) 0)) (stH4 cells m c 35 0) := by
  rw [stepA_eq]
  kernel_rfl
theorem tn4_5 (x : Option D) (cells : List Int) (m c : Int) : stepA (rw3 1 0 3) (stE4 x (some (rw3 0 4 0)) (some (rw3 4 0 0)) (some (rw3 0 0 4)) 0) (stH4 cells m c 35 0) = .ok (.nx (stE4 x (some (rw3 1 0 3)) (some (rw3 4 0 0)) (some (rw3 (-1) 4 1)) 0)) (stH4 cells m c 43 0) := by
  rw [stepA_eq]
  kernel_rfl
theorem tn4_6 (x : Option D) (cells : List Int) (m c : Int) : stepA (rw3 1 1 2) (stE4 x (some (rw3 1 0 3)) (some (rw3 4 0 0)) (some (rw3 (-1) 4 1)) 0) (stH4 cells m c 43 0) = .ok (.nx (stE4 x (some (rw3 1 1 2)) (some (rw3 4 0 0)) (some (rw3 (-1) 3 2)) 0)) (stH4 cells m c 53 0) := by
  rw [stepA_eq]
  kernel_rfl
theorem tn4_7 (x : Option D) (cells : List Int) (m c : Int) : stepA (rw3 1 2 1) (stE4 x (some (rw3 1 1 2)) (some (rw3 4 0 0)) (some (rw3 (-1) 3 2)) 0) (stH4 cells m c 53 0) = .ok (.nx (stE4 x (some (rw3 1 2 1)) (some (rw3 4 0 0)) (some (rw3 (-1) 2 3)) 0)) (stH4 cells m c 63 0) := by
  rw [stepA_eq]
  kernel_rfl
theorem tn4_8 (x : Option D) (cells : List Int) (m c : Int) : stepA (rw3 1 3 0) (stE4 x (some (rw3 1 2 1)) (some (rw3 4 0 0)) (some (rw3 (-1) 2 3)) 0) (stH4 cells m c 63 0) = .ok (.nx (stE4 x (some (rw3 1 3 0)) (some (rw3 4 0 0)) (some (rw3 (-1) 1 4)) 0)) (stH4 cells m c 71 0) := by
  rw [stepA_eq]
  kernel_rfl
theorem tn4_9 (x : Option D) (cells : List Int) (m c : Int) : stepA (rw3 2 0 2) (stE4 x (some (rw3 1 3 0)) (some (rw3 4 0 0)) (some (rw3 (-1) 1 4)) 0) (stH4 cells m c 71 0) = .ok (.nx (stE4 x (some (rw3 2 0 2)) (some (rw3 4 0 0)) (some (rw3 (-2) 4 2)) 0)) (stH4 cells m c 80 0) := by
  rw [stepA_eq]
  kernel_rfl
theorem tn4_10 (x : Option D) (cells : List Int) (m c : Int) : stepA (rw3 2 1 1) (stE4 x (some (rw3 2 0 2)) (some (rw3 4 0 0)) (some (rw3 (-2) 4 2)) 0) (stH4 cells m c 80 0) = .ok (.nx (stE4 x (some (rw3 2 1 1)) (some (rw3 4 0 0)) (some (rw3 (-2) 3 3)) 0)) (stH4 cells m c 90 0) := by
  rw [stepA_eq]
  kernel_rfl
theorem tn4_11 (x : Option D) (cells : List Int) (m c : Int) : stepA (rw3 2 2 0) (stE4 x (some (rw3 2 1 1)) (some (rw3 4 0 0)) (some (rw3 (-2) 3 3)) 0) (stH4 cells m c 90 0) = .ok (.nx (stE4 x (some (rw3 2 2 0)) (some (rw3 4 0 0)) (some (rw3 (-2) 2 4)) 0)) (stH4 cells m c 99 0) := by
  rw [stepA_eq]
  kernel_rfl
theorem tn4_12 (x : Option D) (cells : List Int) (m c : Int) : stepA (rw3 3 0 1) (stE4 x (some (rw3 2 2 0)) (some (rw3 4 0 0)) (some (rw3 (-2) 2 4)) 0) (stH4 cells m c 99 0) = .ok (.nx (stE4 x (some (rw3 3 0 1)) (some (rw3 4 0 0)) (some (rw3 (-3) 4 3)) 0)) (stH4 cells m c 107 0) := by
  rw [stepA_eq]
  kernel_rfl
theorem tn4_13 (x : Option D) (cells : List Int) (m c : Int) : stepA (rw3 3 1 0) (stE4 x (some (rw3 3 0 1)) (some (rw3 4 0 0)) (some (rw3 (-3) 4 3)) 0) (stH4 cells m c 107 0) = .ok (.nx (stE4 x (some (rw3 3 1 0)) (some (rw3 4 0 0)) (some (rw3 (-3) 3 4)) 0)) (stH4 cells m c 115 0) := by
  rw [stepA_eq]
  kernel_rfl
theorem tn4_14 (x : Option D) (cells : List Int) (m c : Int) : stepA (rw3 4 0 0) (stE4 x (some (rw3 3 1 0)) (some (rw3 4 0 0)) (some (rw3 (-3) 3 4)) 0) (stH4 cells m c 115 0) = .ok (.nx (stE4 x (some (rw3 4 0 0)) (some (rw3 4 0 0)) (some (rw3 (-4) 4 4)) 0)) (stH4 cells m c 120 0) := by
  rw [stepA_eq]
  kernel_rfl
def turns4 (x : Option D) (cells : List Int) (m c : Int) : List Turn := [((rw3 0 0 4), stE4 x (some (rw3 0 0 4)) (some (rw3 4 0 0)) (some (rw3 0 4 0)) 0, stH4 cells m c 5 0), ((rw3 0 1 3), stE4 x (some (rw3 0 1 3)) (some (rw3 4 0 0)) (some (rw3 0 3 1)) 0, stH4 cells m c 13 0), ((rw3 0 2 2), stE4 x (some (rw3 0 2 2)) (some (rw3 4 0 0)) (some (rw3 0 2 2)) 0, stH4 cells m c 22 0), ((rw3 0 3 1), stE4 x (some (rw3 0 3 1)) (some (rw3 4 0 0)) (some (rw3 0 1 3)) 0, stH4 cells m c 30 0), ((rw3 0 4 0), stE4 x (some (rw3 0 4 0)) (some (rw3 4 0 0)) (some (rw3 0 0 4)) 0, stH4 cells m c 35 0), ((rw3 1 0 3), stE4 x (some (rw3 1 0 3)) (some (rw3 4 0 0)) (some (rw3 (-1) 4 1)) 0, stH4 cells m c 43 0), ((rw3 1 1 2), stE4 x (some (rw3 1 1 2)) (some (rw3 4 0 0)) (some (rw3 (-1) 3 2)) 0, stH4 cells m c 53 0), ((rw3 1 2 1), stE4 x (some (rw3 1 2 1)) (some (rw3 4 0 0)) (some (rw3 (-1) 2 3)) 0, stH4 cells m c 63 0), ((rw3 1 3 0), stE4 x (some (rw3 1 3 0)) (some (rw3 4 0 0)) (some (rw3 (-1) 1 4)) 0, stH4 cells m c 71 0), ((rw3 2 0 2), stE4 x (some (rw3 2 0 2)) (some (rw3 4 0 0)) (some (rw3 (-2) 4 2)) 0, stH4 cells m c 80 0), ((rw3 2 1 1), stE4 x (some (rw3 2 1 1)) (some (rw3 4 0 0)) (some (rw3 (-2) 3 3)) 0, stH4 cells m c 90 0), ((rw3 2 2 0), stE4 x (some (rw3 2 2 0)) (some (rw3 4 0 0)) (some (rw3 (-2) 2 4)) 0, stH4 cells m c 99 0), ((rw3 3 0 1), stE4 x (some (rw3 3 0 1)) (some (rw3 4 0 0)) (some (rw3 (-3) 4 3)) 0, stH4 cells m c 107 0), ((rw3 3 1 0), stE4 x (some (rw3 3 1 0)) (some (rw3 4 0 0)) (some (rw3 (-3) 3 4)) 0, stH4 cells m c 115 0), ((rw3 4 0 0), stE4 x (some (rw3 4 0 0)) (some (rw3 4 0 0)) (some (rw3 (-4) 4 4)) 0, stH4 cells m c 120 0)]
theorem mida4 (x : Option D) (cells : List Int) (m c : Int) : dSs (runF cs fds 11) cs midA [x, some (.ref 1), some (.int 4), none, none, none, none, none, none, none, none, none, none, none, none, none, none, none, none, none, none, none, none, none] (pot cells m c []) = .ok (.nx (ena4 x)) (pot cells m c [.lst sh4, .lst ev4]) :=
  (take_drop _ cs 2 midA _ _ _ _ (pre4 x cells m c)).trans (for4 _ _ _ rows4 (turns4 x cells m c) _ rfl (by kernel_rfl) (show 15 < FUEL from by decide) ⟨tn4_0 x cells m c, tn4_1 x cells m c, tn4_2 x cells m c, tn4_3 x cells m c, tn4_4 x cells m c, tn4_5 x cells m c, tn4_6 x cells m c, tn4_7 x cells m c, tn4_8 x cells m c, tn4_9 x cells m c, tn4_10 x cells m c, tn4_11 x cells m c, tn4_12 x cells m c, tn4_13 x cells m c, tn4_14 x cells m c, trivial⟩ (by kernel_rfl))
theorem midc4 (x : Option D) (cells : List Int) (m c : Int) : dSs (runF cs fds 11) cs midC (ena4 x) (pot cells m c [.lst sh4, .lst ev4]) = .ok (.nx (en4 x)) (pot cells m c [.lst sh4, .lst ev4]) := by
  rw [run_q, q_midC_eq]
  kernel_rfl
theorem f1_4 : runF cs fds 11 18 [.int 3, .int 4] [] = .ok (.d (.tup sh4)) [] := by
  rw [run_q]
  kernel_rfl
theorem g1_4 : runF cs fds 11 6 [.int 4] [] = .ok (.d (.tup ev4)) [] := by
  rw [run_q]
  kernel_rfl
theorem f2_4 (cells : List Int) (m c : Int) : biD .srt [.d (.ref 2)] (pot cells m c [.lst sh4, .lst ev4]) = some (.fl sh4) := by kernel_rfl
theorem g2_4 (cells : List Int) (m c : Int) : biD .srt [.d (.ref 3)] (pot cells m c [.lst sh4, .lst ev4]) = some (.fl ev4) := by kernel_rfl
theorem f4_4 (h : Hh) : eqD (.d (.tup sh4)) (.d (.tup sh4)) h = some true := by kernel_rfl
theorem g4_4 (h : Hh) : eqD (.d (.tup ev4)) (.d (.tup ev4)) h = some true := by kernel_rfl
theorem midb4 (x : Option D) (cells : List Int) (m c : Int) : dSs (runF cs fds 11) cs midB (ena4 x) (pot cells m c [.lst sh4, .lst ev4]) = .ok (.nx (en4 x)) (pot cells m c [.lst sh4, .lst ev4]) :=
  (take_drop _ cs 3 midB _ _ _ _ (midc4 x cells m c)).trans (last8 4 _ _ sh4 ev4 rfl rfl rfl f1_4 (f2_4 cells m c) (f4_4 _) g1_4 (g2_4 cells m c) (g4_4 _))
def enl4 (x a6 a14 a15 a16 a17 : Option D) : En := [x, some (.ref 1), some (.int 4), some (.lst rows4), some (rw3 4 0 0), some lad4, a6, none, none, none, some (.ref 2), some (.ref 3), some (.int 0), some (rw3 4 0 0), a14, a15, a16, a17, some (rw3 (-4) 4 4), none, none, none, none, none]
def tab4_0 : List (D × D × Bool × Bool × Bool) := [(sq 0 0 4 0 4 0 4 0 0, sq 0 0 4 0 4 0 4 0 0, false, false, true), (sq 0 0 4 1 3 0 3 1 0, sq 0 0 4 0 3 1 3 1 0, false, false, false), (sq 0 0 4 2 2 0 2 2 0, sq 0 0 4 0 2 2 2 2 0, false, false, false), (sq 0 0 4 3 1 0 1 3 0, sq 0 0 4 0 1 3 1 3 0, false, false, false), (sq 0 0 4 4 0 0 0 4 0, sq 0 0 4 0 0 4 0 4 0, false, false, false), (sq 0 1 3 0 3 1 4 0 0, sq 0 1 3 1 3 0 4 0 0, false, false, false), (sq 0 1 3 1 2 1 3 1 0, sq 0 1 3 1 2 1 3 1 0, false, false, true), (sq 0 1 3 1 3 0 3 0 1, sq 0 1 3 0 3 1 3 0 1, false, false, false), (sq 0 1 3 2 1 1 2 2 0, sq 0 1 3 1 1 2 2 2 0, false, false, false), (sq 0 1 3 2 2 0 2 1 1, sq 0 1 3 0 2 2 2 1 1, false, false, false), (sq 0 1 3 3 0 1 1 3 0, sq 0 1 3 1 0 3 1 3 0, false, false, false), (sq 0 1 3 3 1 0 1 2 1, sq 0 1 3 0 1 3 1 2 1, false, false, false), (sq 0 1 3 4 0 0 0 3 1, sq 0 1 3 0 0 4 0 3 1, false, false, false), (sq 0 2 2 0 2 2 4 0 0, sq 0 2 2 2 2 0 4 0 0, false, false, false), (sq 0 2 2 1 1 2 3 1 0, sq 0 2 2 2 1 1 3 1 0, false, false, false), (sq 0 2 2 1 2 1 3 0 1, sq 0 2 2 1 2 1 3 0 1, false, false, true)]
theorem body4_0 (x a6 a14 a15 a16 a17 : Option D) (cells : List Int) (m c : Int) : tab4_0.map (fun t => stepQ t.1 (enl4 x a6 a14 a15 a16 a17) (pot cells m c [.lst sh4, .lst ev4])) = tab4_0.map (fun t => .ok (.nx (enl4 x (some t.1) (some (.bl t.2.2.1)) (some (due t.2.2.1 t.2.2.2.1)) (some t.2.1) (some (.bl t.2.2.2.2)))) (pot cells m c [.lst sh4, .lst ev4])) := by kernel_rfl
def tab4_1 : List (D × D × Bool × Bool × Bool) := [(sq 0 2 2 2 0 2 2 2 0, sq 0 2 2 2 0 2 2 2 0, false, false, true), (sq 0 2 2 2 1 1 2 1 1, sq 0 2 2 1 1 2 2 1 1, false, false, false), (sq 0 2 2 2 2 0 2 0 2, sq 0 2 2 0 2 2 2 0 2, false, false, false), (sq 0 2 2 3 0 1 1 2 1, sq 0 2 2 1 0 3 1 2 1, false, false, false), (sq 0 2 2 3 1 0 1 1 2, sq 0 2 2 0 1 3 1 1 2, false, false, false), (sq 0 2 2 4 0 0 0 2 2, sq 0 2 2 0 0 4 0 2 2, false, false, false), (sq 0 3 1 0 1 3 4 0 0, sq 0 3 1 3 1 0 4 0 0, false, false, false), (sq 0 3 1 1 0 3 3 1 0, sq 0 3 1 3 0 1 3 1 0, false, false, false), (sq 0 3 1 1 1 2 3 0 1, sq 0 3 1 2 1 1 3 0 1, false, false, false), (sq 0 3 1 2 0 2 2 1 1, sq 0 3 1 2 0 2 2 1 1, false, false, true), (sq 0 3 1 2 1 1 2 0 2, sq 0 3 1 1 1 2 2 0 2, false, false, false), (sq 0 3 1 3 0 1 1 1 2, sq 0 3 1 1 0 3 1 1 2, false, false, false), (sq 0 3 1 3 1 0 1 0 3, sq 0 3 1 0 1 3 1 0 3, false, false, false), (sq 0 3 1 4 0 0 0 1 3, sq 0 3 1 0 0 4 0 1 3, false, false, false), (sq 0 4 0 0 0 4 4 0 0, sq 0 4 0 4 0 0 4 0 0, false, false, false), (sq 0 4 0 1 0 3 3 0 1, sq 0 4 0 3 0 1 3 0 1, false, false, false)]
theorem body4_1 (x a6 a14 a15 a16 a17 : Option D) (cells : List Int) (m c : Int) : tab4_1.map (fun t => stepQ t.1 (enl4 x a6 a14 a15 a16 a17) (pot cells m c [.lst sh4, .lst ev4])) = tab4_1.map (fun t => .ok (.nx (enl4 x (some t.1) (some (.bl t.2.2.1)) (some (due t.2.2.1 t.2.2.2.1)) (some t.2.1) (some (.bl t.2.2.2.2)))) (pot cells m c [.lst sh4, .lst ev4])) := by kernel_rfl
def tab4_2 : List (D × D × Bool × Bool × Bool) := [(sq 0 4 0 2 0 2 2 0 2, sq 0 4 0 2 0 2 2 0 2, false, false, true), (sq 0 4 0 3 0 1 1 0 3, sq 0 4 0 1 0 3 1 0 3, false, false, false), (sq 0 4 0 4 0 0 0 0 4, sq 0 4 0 0 0 4 0 0 4, false, false, false), (sq 1 0 3 0 3 1 3 1 0, sq 1 0 3 1 3 0 3 1 0, false, false, false), (sq 1 0 3 0 4 0 3 0 1, sq 1 0 3 0 4 0 3 0 1, false, false, true), (sq 1 0 3 1 2 1 2 2 0, sq 1 0 3 1 2 1 2 2 0, false, false, true), (sq 1 0 3 1 3 0 2 1 1, sq 1 0 3 0 3 1 2 1 1, false, false, false), (sq 1 0 3 2 1 1 1 3 0, sq 1 0 3 1 1 2 1 3 0, false, false, false), (sq 1 0 3 2 2 0 1 2 1, sq 1 0 3 0 2 2 1 2 1, false, false, false), (sq 1 0 3 3 0 1 0 4 0, sq 1 0 3 1 0 3 0 4 0, false, false, false), (sq 1 0 3 3 1 0 0 3 1, sq 1 0 3 0 1 3 0 3 1, false, false, false), (sq 1 1 2 0 2 2 3 1 0, sq 1 1 2 2 2 0 3 1 0, false, false, false), (sq 1 1 2 0 3 1 3 0 1, sq 1 1 2 1 3 0 3 0 1, false, false, false), (sq 1 1 2 1 1 2 2 2 0, sq 1 1 2 2 1 1 2 2 0, false, false, false), (sq 1 1 2 1 2 1 2 1 1, sq 1 1 2 1 2 1 2 1 1, false, false, true), (sq 1 1 2 1 3 0 2 0 2, sq 1 1 2 0 3 1 2 0 2, false, false, false)]
theorem body4_2 (x a6 a14 a15 a16 a17 : Option D) (cells : List Int) (m c : Int) : tab4_2.map (fun t => stepQ t.1 (enl4 x a6 a14 a15 a16 a17) (pot cells m c [.lst sh4, .lst ev4])) = tab4_2.map (fun t => .ok (.nx (enl4 x (some t.1) (some (.bl t.2.2.1)) (some (due t.2.2.1 t.2.2.2.1)) (some t.2.1) (some (.bl t.2.2.2.2)))) (pot cells m c [.lst sh4, .lst ev4])) := by kernel_rfl
def tab4_3 : List (D × D × Bool × Bool × Bool) := [(sq 1 1 2 2 0 2 1 3 0, sq 1 1 2 2 0 2 1 3 0, false, false, true), (sq 1 1 2 2 1 1 1 2 1, sq 1 1 2 1 1 2 1 2 1, false, false, false), (sq 1 1 2 2 2 0 1 1 2, sq 1 1 2 0 2 2 1 1 2, false, false, false), (sq 1 1 2 3 0 1 0 3 1, sq 1 1 2 1 0 3 0 3 1, false, false, false), (sq 1 1 2 3 1 0 0 2 2, sq 1 1 2 0 1 3 0 2 2, false, false, false), (sq 1 2 1 0 1 3 3 1 0, sq 1 2 1 3 1 0 3 1 0, false, false, false), (sq 1 2 1 0 2 2 3 0 1, sq 1 2 1 2 2 0 3 0 1, false, false, false), (sq 1 2 1 1 0 3 2 2 0, sq 1 2 1 3 0 1 2 2 0, false, false, false), (sq 1 2 1 1 1 2 2 1 1, sq 1 2 1 2 1 1 2 1 1, false, false, false), (sq 1 2 1 1 2 1 2 0 2, sq 1 2 1 1 2 1 2 0 2, false, false, true), (sq 1 2 1 2 0 2 1 2 1, sq 1 2 1 2 0 2 1 2 1, false, false, true), (sq 1 2 1 2 1 1 1 1 2, sq 1 2 1 1 1 2 1 1 2, false, false, false), (sq 1 2 1 2 2 0 1 0 3, sq 1 2 1 0 2 2 1 0 3, false, false, false), (sq 1 2 1 3 0 1 0 2 2, sq 1 2 1 1 0 3 0 2 2, false, false, false), (sq 1 2 1 3 1 0 0 1 3, sq 1 2 1 0 1 3 0 1 3, false, false, false), (sq 1 3 0 0 0 4 3 1 0, sq 1 3 0 4 0 0 3 1 0, false, false, false)]
theorem body4_3 (x a6 a14 a15 a16 a17 : Option D) (cells : List Int) (m c : Int) : tab4_3.map (fun t => stepQ t.1 (enl4 x a6 a14 a15 a16 a17) (pot cells m c [.lst sh4, .lst ev4])) = tab4_3.map (fun t => .ok (.nx (enl4 x (some t.1) (some (.bl t.2.2.1)) (some (due t.2.2.1 t.2.2.2.1)) (some t.2.1) (some (.bl t.2.2.2.2)))) (pot cells m c [.lst sh4, .lst ev4])) := by kernel_rfl
def tab4_4 : List (D × D × Bool × Bool × Bool) := [(sq 1 3 0 0 1 3 3 0 1, sq 1 3 0 3 1 0 3 0 1, false, false, false), (sq 1 3 0 1 0 3 2 1 1, sq 1 3 0 3 0 1 2 1 1, false, false, false), (sq 1 3 0 1 1 2 2 0 2, sq 1 3 0 2 1 1 2 0 2, false, false, false), (sq 1 3 0 2 0 2 1 1 2, sq 1 3 0 2 0 2 1 1 2, false, false, true), (sq 1 3 0 2 1 1 1 0 3, sq 1 3 0 1 1 2 1 0 3, false, false, false), (sq 1 3 0 3 0 1 0 1 3, sq 1 3 0 1 0 3 0 1 3, false, false, false), (sq 1 3 0 3 1 0 0 0 4, sq 1 3 0 0 1 3 0 0 4, false, false, false), (sq 2 0 2 0 2 2 2 2 0, sq 2 0 2 2 2 0 2 2 0, false, false, false), (sq 2 0 2 0 3 1 2 1 1, sq 2 0 2 1 3 0 2 1 1, false, false, false), (sq 2 0 2 0 4 0 2 0 2, sq 2 0 2 0 4 0 2 0 2, false, false, true), (sq 2 0 2 1 1 2 1 3 0, sq 2 0 2 2 1 1 1 3 0, false, false, false), (sq 2 0 2 1 2 1 1 2 1, sq 2 0 2 1 2 1 1 2 1, false, false, true), (sq 2 0 2 1 3 0 1 1 2, sq 2 0 2 0 3 1 1 1 2, false, false, false), (sq 2 0 2 2 0 2 0 4 0, sq 2 0 2 2 0 2 0 4 0, false, false, true), (sq 2 0 2 2 1 1 0 3 1, sq 2 0 2 1 1 2 0 3 1, false, false, false), (sq 2 0 2 2 2 0 0 2 2, sq 2 0 2 0 2 2 0 2 2, false, false, false)]
theorem body4_4 (x a6 a14 a15 a16 a17 : Option D) (cells : List Int) (m c : Int) : tab4_4.map (fun t => stepQ t.1 (enl4 x a6 a14 a15 a16 a17) (pot cells m c [.lst sh4, .lst ev4])) = tab4_4.map (fun t => .ok (.nx (enl4 x (some t.1) (some (.bl t.2.2.1)) (some (due t.2.2.1 t.2.2.2.1)) (some t.2.1) (some (.bl t.2.2.2.2)))) (pot cells m c [.lst sh4, .lst ev4])) := by kernel_rfl
def tab4_5 : List (D × D × Bool × Bool × Bool) := [(sq 2 1 1 0 1 3 2 2 0, sq 2 1 1 3 1 0 2 2 0, false, false, false), (sq 2 1 1 0 2 2 2 1 1, sq 2 1 1 2 2 0 2 1 1, false, false, false), (sq 2 1 1 0 3 1 2 0 2, sq 2 1 1 1 3 0 2 0 2, false, false, false), (sq 2 1 1 1 0 3 1 3 0, sq 2 1 1 3 0 1 1 3 0, false, false, false), (sq 2 1 1 1 1 2 1 2 1, sq 2 1 1 2 1 1 1 2 1, false, false, false), (sq 2 1 1 1 2 1 1 1 2, sq 2 1 1 1 2 1 1 1 2, false, false, true), (sq 2 1 1 1 3 0 1 0 3, sq 2 1 1 0 3 1 1 0 3, false, false, false), (sq 2 1 1 2 0 2 0 3 1, sq 2 1 1 2 0 2 0 3 1, false, false, true), (sq 2 1 1 2 1 1 0 2 2, sq 2 1 1 1 1 2 0 2 2, false, false, false), (sq 2 1 1 2 2 0 0 1 3, sq 2 1 1 0 2 2 0 1 3, false, false, false), (sq 2 2 0 0 0 4 2 2 0, sq 2 2 0 4 0 0 2 2 0, false, false, false), (sq 2 2 0 0 1 3 2 1 1, sq 2 2 0 3 1 0 2 1 1, false, false, false), (sq 2 2 0 0 2 2 2 0 2, sq 2 2 0 2 2 0 2 0 2, false, false, false), (sq 2 2 0 1 0 3 1 2 1, sq 2 2 0 3 0 1 1 2 1, false, false, false), (sq 2 2 0 1 1 2 1 1 2, sq 2 2 0 2 1 1 1 1 2, false, false, false), (sq 2 2 0 1 2 1 1 0 3, sq 2 2 0 1 2 1 1 0 3, false, false, true)]
theorem body4_5 (x a6 a14 a15 a16 a17 : Option D) (cells : List Int) (m c : Int) : tab4_5.map (fun t => stepQ t.1 (enl4 x a6 a14 a15 a16 a17) (pot cells m c [.lst sh4, .lst ev4])) = tab4_5.map (fun t => .ok (.nx (enl4 x (some t.1) (some (.bl t.2.2.1)) (some (due t.2.2.1 t.2.2.2.1)) (some t.2.1) (some (.bl t.2.2.2.2)))) (pot cells m c [.lst sh4, .lst ev4])) := by kernel_rfl
def tab4_6 : List (D × D × Bool × Bool × Bool) := [(sq 2 2 0 2 0 2 0 2 2, sq 2 2 0 2 0 2 0 2 2, false, false, true), (sq 2 2 0 2 1 1 0 1 3, sq 2 2 0 1 1 2 0 1 3, false, false, false), (sq 2 2 0 2 2 0 0 0 4, sq 2 2 0 0 2 2 0 0 4, false, false, false), (sq 3 0 1 0 1 3 1 3 0, sq 3 0 1 3 1 0 1 3 0, false, false, false), (sq 3 0 1 0 2 2 1 2 1, sq 3 0 1 2 2 0 1 2 1, false, false, false), (sq 3 0 1 0 3 1 1 1 2, sq 3 0 1 1 3 0 1 1 2, false, false, false), (sq 3 0 1 0 4 0 1 0 3, sq 3 0 1 0 4 0 1 0 3, false, false, true), (sq 3 0 1 1 0 3 0 4 0, sq 3 0 1 3 0 1 0 4 0, false, false, false), (sq 3 0 1 1 1 2 0 3 1, sq 3 0 1 2 1 1 0 3 1, false, false, false), (sq 3 0 1 1 2 1 0 2 2, sq 3 0 1 1 2 1 0 2 2, false, false, true), (sq 3 0 1 1 3 0 0 1 3, sq 3 0 1 0 3 1 0 1 3, false, false, false), (sq 3 1 0 0 0 4 1 3 0, sq 3 1 0 4 0 0 1 3 0, false, false, false), (sq 3 1 0 0 1 3 1 2 1, sq 3 1 0 3 1 0 1 2 1, false, false, false), (sq 3 1 0 0 2 2 1 1 2, sq 3 1 0 2 2 0 1 1 2, false, false, false), (sq 3 1 0 0 3 1 1 0 3, sq 3 1 0 1 3 0 1 0 3, false, false, false), (sq 3 1 0 1 0 3 0 3 1, sq 3 1 0 3 0 1 0 3 1, false, false, false)]
theorem body4_6 (x a6 a14 a15 a16 a17 : Option D) (cells : List Int) (m c : Int) : tab4_6.map (fun t => stepQ t.1 (enl4 x a6 a14 a15 a16 a17) (pot cells m c [.lst sh4, .lst ev4])) = tab4_6.map (fun t => .ok (.nx (enl4 x (some t.1) (some (.bl t.2.2.1)) (some (due t.2.2.1 t.2.2.2.1)) (some t.2.1) (some (.bl t.2.2.2.2)))) (pot cells m c [.lst sh4, .lst ev4])) := by kernel_rfl
def tab4_7 : List (D × D × Bool × Bool × Bool) := [(sq 3 1 0 1 1 2 0 2 2, sq 3 1 0 2 1 1 0 2 2, false, false, false), (sq 3 1 0 1 2 1 0 1 3, sq 3 1 0 1 2 1 0 1 3, false, false, true), (sq 3 1 0 1 3 0 0 0 4, sq 3 1 0 0 3 1 0 0 4, false, false, false), (sq 4 0 0 0 0 4 0 4 0, sq 4 0 0 4 0 0 0 4 0, false, false, false), (sq 4 0 0 0 1 3 0 3 1, sq 4 0 0 3 1 0 0 3 1, false, false, false), (sq 4 0 0 0 2 2 0 2 2, sq 4 0 0 2 2 0 0 2 2, false, false, false), (sq 4 0 0 0 3 1 0 1 3, sq 4 0 0 1 3 0 0 1 3, false, false, false), (sq 4 0 0 0 4 0 0 0 4, sq 4 0 0 0 4 0 0 0 4, false, false, true)]
theorem body4_7 (x a6 a14 a15 a16 a17 : Option D) (cells : List Int) (m c : Int) : tab4_7.map (fun t => stepQ t.1 (enl4 x a6 a14 a15 a16 a17) (pot cells m c [.lst sh4, .lst ev4])) = tab4_7.map (fun t => .ok (.nx (enl4 x (some t.1) (some (.bl t.2.2.1)) (some (due t.2.2.1 t.2.2.2.1)) (some t.2.1) (some (.bl t.2.2.2.2)))) (pot cells m c [.lst sh4, .lst ev4])) := by kernel_rfl
def tab4 : List (D × D × Bool × Bool × Bool) := tab4_0 ++ (tab4_1 ++ (tab4_2 ++ (tab4_3 ++ (tab4_4 ++ (tab4_5 ++ (tab4_6 ++ (tab4_7)))))))
theorem tabs4 : tab4.map (·.1) = sh4 := by kernel_rfl
theorem body4 (x a6 a14 a15 a16 a17 : Option D) (cells : List Int) (m c : Int) : tab4.map (fun t => stepL t.1 (enl4 x a6 a14 a15 a16 a17) (pot cells m c [.lst sh4, .lst ev4])) = tab4.map (fun t => .ok (.nx (enl4 x (some t.1) (some (.bl t.2.2.1)) (some (due t.2.2.1 t.2.2.2.1)) (some t.2.1) (some (.bl t.2.2.2.2)))) (pot cells m c [.lst sh4, .lst ev4])) := by
  rw [stepL_eq]
  unfold tab4
  simp only [List.map_append, body4_0 x a6 a14 a15 a16 a17 cells m c, body4_1 x a6 a14 a15 a16 a17 cells m c, body4_2 x a6 a14 a15 a16 a17 cells m c, body4_3 x a6 a14 a15 a16 a17 cells m c, body4_4 x a6 a14 a15 a16 a17 cells m c, body4_5 x a6 a14 a15 a16 a17 cells m c, body4_6 x a6 a14 a15 a16 a17 cells m c, body4_7 x a6 a14 a15 a16 a17 cells m c]
end K99
end

section
set_option Elab.async false
set_option linter.all false
set_option maxRecDepth 100000
set_option maxHeartbeats 0
namespace K99
open MP PySem
def rows5 : List D := [(rw3 0 0 5), (rw3 0 1 4), (rw3 0 2 3), (rw3 0 3 2), (rw3 0 4 1), (rw3 0 5 0), (rw3 1 0 4), (rw3 1 1 3), (rw3 1 2 2), (rw3 1 3 1), (rw3 1 4 0), (rw3 2 0 3), (rw3 2 1 2), (rw3 2 2 1), (rw3 2 3 0), (rw3 3 0 2), (rw3 3 1 1), (rw3 3 2 0), (rw3 4 0 1), (rw3 4 1 0), (rw3 5 0 0)]
def lad5 : D := (.tup [(.tup [(.str ⟨#[114, 111, 119, 115]⟩), (.int 9261)]), (.tup [(.str ⟨#[108, 105, 110, 101, 115]⟩), (.int 231)]), (.tup [(.str ⟨#[101, 118, 101, 110]⟩), (.int 0)]), (.tup [(.str ⟨#[98, 114, 111, 107, 101, 110]⟩), (.int 0)])])
def ev5 : List D := []
def sh5 : List D := [(sq 0 0 5 0 5 0 5 0 0), (sq 0 0 5 1 4 0 4 1 0), (sq 0 0 5 2 3 0 3 2 0), (sq 0 0 5 3 2 0 2 3 0), (sq 0 0 5 4 1 0 1 4 0), (sq 0 0 5 5 0 0 0 5 0), (sq 0 1 4 0 4 1 5 0 0), (sq 0 1 4 1 3 1 4 1 0), (sq 0 1 4 1 4 0 4 0 1), (sq 0 1 4 2 2 1 3 2 0), (sq 0 1 4 2 3 0 3 1 1), (sq 0 1 4 3 1 1 2 3 0), (sq 0 1 4 3 2 0 2 2 1), (sq 0 1 4 4 0 1 1 4 0), (sq 0 1 4 4 1 0 1 3 1), (sq 0 1 4 5 0 0 0 4 1), (sq 0 2 3 0 3 2 5 0 0), (sq 0 2 3 1 2 2 4 1 0), (sq 0 2 3 1 3 1 4 0 1), (sq 0 2 3 2 1 2 3 2 0), (sq 0 2 3 2 2 1 3 1 1), (sq 0 2 3 2 3 0 3 0 2), (sq 0 2 3 3 0 2 2 3 0), (sq 0 2 3 3 1 1 2 2 1), (sq 0 2 3 3 2 0 2 1 2), (sq 0 2 3 4 0 1 1 3 1), (sq 0 2 3 4 1 0 1 2 2), (sq 0 2 3 5 0 0 0 3 2), (sq 0 3 2 0 2 3 5 0 0), (sq 0 3 2 1 1 3 4 1 0), (sq 0 3 2 1 2 2 4 0 1), (sq 0 3 2 2 0 3 3 2 0), (sq 0 3 2 2 1 2 3 1 1), (sq 0 3 2 2 2 1 3 0 2), (sq 0 3 2 3 0 2 2 2 1), (sq 0 3 2 3 1 1 2 1 2), (sq 0 3 2 3 2 0 2 0 3), (sq 0 3 2 4 0 1 1 2 2), (sq 0 3 2 4 1 0 1 1 3), (sq 0 3 2 5 0 0 0 2 3), (sq 0 4 1 0 1 4 5 0 0), (sq 0 4 1 1 0 4 4 1 0), (sq 0 4 1 1 1 3 4 0 1), (sq 0 4 1 2 0 3 3 1 1), (sq 0 4 1 2 1 2 3 0 2), (sq 0 4 1 3 0 2 2 1 2), (sq 0 4 1 3 1 1 2 0 3), (sq 0 4 1 4 0 1 1 1 3), (sq 0 4 1 4 1 0 1 0 4), (sq 0 4 1 5 0 0 0 1 4), (sq 0 5 0 0 0 5 5 0 0), (sq 0 5 0 1 0 4 4 0 1), (sq 0 5 0 2 0 3 3 0 2), (sq 0 5 0 3 0 2 2 0 3), (sq 0 5 0 4 0 1 1 0 4), (sq 0 5 0 5 0 0 0 0 5), (sq 1 0 4 0 4 1 4 1 0), (sq 1 0 4 0 5 0 4 0 1), (sq 1 0 4 1 3 1 3 2 0), (sq 1 0 4 1 4 0 3 1 1), (sq 1 0 4 2 2 1 2 3 0), (sq 1 0 4 2 3 0 2 2 1), (sq 1 0 4 3 1 1 1 4 0), (sq 1 0 4 3 2 0 1 3 1), (sq 1 0 4 4 0 1 0 5 0), (sq 1 0 4 4 1 0 0 4 1), (sq 1 1 3 0 3 2 4 1 0), (sq 1 1 3 0 4 1 4 0 1), (sq 1 1 3 1 2 2 3 2 0), (sq 1 1 3 1 3 1 3 1 1), (sq 1 1 3 1 4 0 3 0 2), (sq 1 1 3 2 1 2 2 3 0), (sq 1 1 3 2 2 1 2 2 1), (sq 1 1 3 2 3 0 2 1 2), (sq 1 1 3 3 0 2 1 4 0), (sq 1 1 3 3 1 1 1 3 1), (sq 1 1 3 3 2 0 1 2 2), (sq 1 1 3 4 0 1 0 4 1), (sq 1 1 3 4 1 0 0 3 2), (sq 1 2 2 0 2 3 4 1 0), (sq 1 2 2 0 3 2 4 0 1), (sq 1 2 2 1 1 3 3 2 0), (sq 1 2 2 1 2 2 3 1 1), (sq 1 2 2 1 3 1 3 0 2), (sq 1 2 2 2 0 3 2 3 0), (sq 1 2 2 2 1 2 2 2 1), (sq 1 2 2 2 2 1 2 1 2), (sq 1 2 2 2 3 0 2 0 3), (sq 1 2 2 3 0 2 1 3 1), (sq 1 2 2 3 1 1 1 2 2), (sq 1 2 2 3 2 0 1 1 3), (sq 1 2 2 4 0 1 0 3 2), (sq 1 2 2 4 1 0 0 2 3), (sq 1 3 1 0 1 4 4 1 0), (sq 1 3 1 0 2 3 4 0 1), (sq 1 3 1 1 0 4 3 2 0), (sq 1 3 1 1 1 3 3 1 1), (sq 1 3 1 1 2 2 3 0 2), (sq 1 3 1 2 0 3 2 2 1), (sq 1 3 1 2 1 2 2 1 2), (sq 1 3 1 2 2 1 2 0 3), (sq 1 3 1 3 0 2 1 2 2), (sq 1 3 1 3 1 1 1 1 3), (sq 1 3 1 3 2 0 1 0 4), (sq 1 3 1 4 0 1 0 2 3), (sq 1 3 1 4 1 0 0 1 4), (sq 1 4 0 0 0 5 4 1 0), (sq 1 4 0 0 1 4 4 0 1), (sq 1 4 0 1 0 4 3 1 1), (sq 1 4 0 1 1 3 3 0 2), (sq 1 4 0 2 0 3 2 1 2), (sq 1 4 0 2 1 2 2 0 3), (sq 1 4 0 3 0 2 1 1 3), (sq 1 4 0 3 1 1 1 0 4), (sq 1 4 0 4 0 1 0 1 4), (sq 1 4 0 4 1 0 0 0 5), (sq 2 0 3 0 3 2 3 2 0), (sq 2 0 3 0 4 1 3 1 1), (sq 2 0 3 0 5 0 3 0 2), (sq 2 0 3 1 2 2 2 3 0), (sq 2 0 3 1 3 1 2 2 1), (sq 2 0 3 1 4 0 2 1 2), (sq 2 0 3 2 1 2 1 4 0), (sq 2 0 3 2 2 1 1 3 1), (sq 2 0 3 2 3 0 1 2 2), (sq 2 0 3 3 0 2 0 5 0), (sq 2 0 3 3 1 1 0 4 1), (sq 2 0 3 3 2 0 0 3 2), (sq 2 1 2 0 2 3 3 2 0), (sq 2 1 2 0 3 2 3 1 1), (sq 2 1 2 0 4 1 3 0 2), (sq 2 1 2 1 1 3 2 3 0), (sq 2 1 2 1 2 2 2 2 1), (sq 2 1 2 1 3 1 2 1 2), (sq 2 1 2 1 4 0 2 0 3), (sq 2 1 2 2 0 3 1 4 0), (sq 2 1 2 2 1 2 1 3 1), (sq 2 1 2 2 2 1 1 2 2), (sq 2 1 2 2 3 0 1 1 3), (sq 2 1 2 3 0 2 0 4 1), (sq 2 1 2 3 1 1 0 3 2), (sq 2 1 2 3 2 0 0 2 3), (sq 2 2 1 0 1 4 3 2 0), (sq 2 2 1 0 2 3 3 1 1), (sq 2 2 1 0 3 2 3 0 2), (sq 2 2 1 1 0 4 2 3 0), (sq 2 2 1 1 1 3 2 2 1), (sq 2 2 1 1 2 2 2 1 2), (sq 2 2 1 1 3 1 2 0 3), (sq 2 2 1 2 0 3 1 3 1), (sq 2 2 1 2 1 2 1 2 2), (sq 2 2 1 2 2 1 1 1 3), (sq 2 2 1 2 3 0 1 0 4), (sq 2 2 1 3 0 2 0 3 2), (sq 2 2 1 3 1 1 0 2 3), (sq 2 2 1 3 2 0 0 1 4), (sq 2 3 0 0 0 5 3 2 0), (sq 2 3 0 0 1 4 3 1 1), (sq 2 3 0 0 2 3 3 0 2), (sq 2 3 0 1 0 4 2 2 1), (sq 2 3 0 1 1 3 2 1 2), (sq 2 3 0 1 2 2 2 0 3), (sq 2 3 0 2 0 3 1 2 2), (sq 2 3 0 2 1 2 1 1 3), (sq 2 3 0 2 2 1 1 0 4), (sq 2 3 0 3 0 2 0 2 3), (sq 2 3 0 3 1 1 0 1 4), (sq 2 3 0 3 2 0 0 0 5), (sq 3 0 2 0 2 3 2 3 0), (sq 3 0 2 0 3 2 2 2 1), (sq 3 0 2 0 4 1 2 1 2), (sq 3 0 2 0 5 0 2 0 3), (sq 3 0 2 1 1 3 1 4 0), (sq 3 0 2 1 2 2 1 3 1), (sq 3 0 2 1 3 1 1 2 2), (sq 3 0 2 1 4 0 1 1 3), (sq 3 0 2 2 0 3 0 5 0), (sq 3 0 2 2 1 2 0 4 1), (sq 3 0 2 2 2 1 0 3 2), (sq 3 0 2 2 3 0 0 2 3), (sq 3 1 1 0 1 4 2 3 0), (sq 3 1 1 0 2 3 2 2 1), (sq 3 1 1 0 3 2 2 1 2), (sq 3 1 1 0 4 1 2 0 3), (sq 3 1 1 1 0 4 1 4 0), (sq 3 1 1 1 1 3 1 3 1), (sq 3 1 1 1 2 2 1 2 2), (sq 3 1 1 1 3 1 1 1 3), (sq 3 1 1 1 4 0 1 0 4), (sq 3 1 1 2 0 3 0 4 1), (sq 3 1 1 2 1 2 0 3 2), (sq 3 1 1 2 2 1 0 2 3), (sq 3 1 1 2 3 0 0 1 4), (sq 3 2 0 0 0 5 2 3 0), (sq 3 2 0 0 1 4 2 2 1), (sq 3 2 0 0 2 3 2 1 2), (sq 3 2 0 0 3 2 2 0 3), (sq 3 2 0 1 0 4 1 3 1), (sq 3 2 0 1 1 3 1 2 2), (sq 3 2 0 1 2 2 1 1 3), (sq 3 2 0 1 3 1 1 0 4), (sq 3 2 0 2 0 3 0 3 2), (sq 3 2 0 2 1 2 0 2 3), (sq 3 2 0 2 2 1 0 1 4), (sq 3 2 0 2 3 0 0 0 5), (sq 4 0 1 0 1 4 1 4 0), (sq 4 0 1 0 2 3 1 3 1), (sq 4 0 1 0 3 2 1 2 2), (sq 4 0 1 0 4 1 1 1 3), (sq 4 0 1 0 5 0 1 0 4), (sq 4 0 1 1 0 4 0 5 0), (sq 4 0 1 1 1 3 0 4 1), (sq 4 0 1 1 2 2 0 3 2), (sq 4 0 1 1 3 1 0 2 3), (sq 4 0 1 1 4 0 0 1 4), (sq 4 1 0 0 0 5 1 4 0), (sq 4 1 0 0 1 4 1 3 1), (sq 4 1 0 0 2 3 1 2 2), (sq 4 1 0 0 3 2 1 1 3), (sq 4 1 0 0 4 1 1 0 4), (sq 4 1 0 1 0 4 0 4 1), (sq 4 1 0 1 1 3 0 3 2), (sq 4 1 0 1 2 2 0 2 3), (sq 4 1 0 1 3 1 0 1 4), (sq 4 1 0 1 4 0 0 0 5), (sq 5 0 0 0 0 5 0 5 0), (sq 5 0 0 0 1 4 0 4 1), (sq 5 0 0 0 2 3 0 3 2), (sq 5 0 0 0 3 2 0 2 3), (sq 5 0 0 0 4 1 0 1 4), (sq 5 0 0 0 5 0 0 0 5)]
def en5 (x : Option D) : En := [x, some (.ref 1), some (.int 5), some (.lst rows5), some (rw3 5 0 0), some lad5, none, none, none, none, some (.ref 2), some (.ref 3), some (.int 0), some (rw3 5 0 0), none, none, none, none, some (rw3 (-5) 5 5), none, none, none, none, none]
def ena5 (x : Option D) : En := [x, some (.ref 1), some (.int 5), some (.lst rows5), some (rw3 5 0 0), none, none, none, none, none, some (.ref 2), some (.ref 3), some (.int 0), some (rw3 5 0 0), none, none, none, none, some (rw3 (-5) 5 5), none, none, none, none, none]
def stE5 (x one other last : Option D) (brk : Int) : En := [x, some (.ref 1), some (.int 5), some (.lst rows5), one, none, none, none, none, none, some (.ref 2), some (.ref 3), some (.int brk), other, none, none, none, none, last, none, none, none, none, none]
def stH5 (cells : List Int) (m c : Int) (i j : Nat) : Hh := pot cells m c [.lst (sh5.take i), .lst (ev5.take j)]
theorem pre5 (x : Option D) (cells : List Int) (m c : Int) : dSs (runF cs fds 11) cs mid0 [x, some (.ref 1), some (.int 5), none, none, none, none, none, none, none, none, none, none, none, none, none, none, none, none, none, none, none, none, none] (pot cells m c []) = .ok (.nx (stE5 x none none none 0)) (stH5 cells m c 0 0) := by
  rw [run_q, q_mid0_eq]
  kernel_rfl
theorem tn5_0 (x : Option D) (cells : List Int) (m c : Int) : stepA (rw3 0 0 5) (stE5 x none none none 0) (stH5 cells m c 0 0) = .ok (.nx (stE5 x (some (rw3 0 0 5)) (some (rw3 5 0 0)) (some (rw3 0 5 0)) 0)) (stH5 cells m c 6 0) := by
  rw [stepA_eq]
  kernel_rfl
theorem tn5_1 (x : Option D) (cells : List Int) (m c : Int) : stepA (rw3 0 1 4) (stE5 x (some (rw3 0 0 5)) (some (rw3 5 0 0)) (some (rw3 0 5 0)) 0) (stH5 cells m c 6 0) = .ok (.nx (stE5 x (some (rw3 0 1 4)) (some (rw3 5 0 0)) (some (rw3 0 4 1)) 0)) (stH5 cells m c 16 0) := by
  rw [stepA_eq]
  kernel_rfl
theorem tn5_2 (x : Option D) (cells : List Int) (m c : Int) : stepA (rw3 0 2 3) (stE5 x (some (rw3 0 1 4)) (some (rw3 5 0 0)) (some (rw3 0 4 1)) 0) (stH5 cells m c 16 0) = .ok (.nx (stE5 x (some (rw3 0 2 3)) (some (rw3 5 0 0)) (some (rw3 0 3 2)) 0)) (stH5 cells m c 28 0) := by
  rw [stepA_eq]
  kernel_rfl
theorem tn5_3 (x : Option D) (cells : List Int) (m c : Int) : stepA (rw3 0 3 2) (stE5 x (some (rw3 0 2 3)) (some (rw3 5 0 0)) (some (rw3 0 3 2)) 0) (stH5 cells m c 28 0) = .ok (.nx (stE5 x (some (rw3 0 3 2)) (some (rw3 5 0 0)) (some (rw3 0 2 3)) 0)) (stH5 cells m c 40 0) := by
  rw [stepA_eq]
  kernel_rfl
theorem tn5_4 (x : Option D) (cells : List Int) (m c : Int) : stepA (rw3 0 4 1) (stE5 x (some (rw3 0 3 2)) (some (rw3 5 0 0)) (some (rw3 0 2 3)) 0) (stH5 cells m c 40 0) = .ok (.nx (stE5 x (some (rw3 0 4 1)) (some (rw3 5 0 0)) (some (rw3 0 1 4)) 0)) (stH5 cells m c 50 0) := by
  rw [stepA_eq]
  kernel_rfl
theorem tn5_5 (x : Option D) (cells : List Int) (m c : Int) : stepA (rw3 0 5 0) (stE5 x (some (rw3 0 4 1)) (some (rw3 5 0 0)) (some (rw3 0 1 4)) 0) (stH5 cells m c 50 0) = .ok (.nx (stE5 x (some (rw3 0 5 0)) (some (rw3 5 0 0)) (some (rw3 0 0 5)) 0)) (stH5 cells m c 56 0) := by
  rw [stepA_eq]
  kernel_rfl
theorem tn5_6 (x : Option D) (cells : List Int) (m c : Int) : stepA (rw3 1 0 4) (stE5 x (some (rw3 0 5 0)) (some (rw3 5 0 0)) (some (rw3 0 0 5)) 0) (stH5 cells m c 56 0) = .ok (.nx (stE5 x (some (rw3 1 0 4)) (some (rw3 5 0 0)) (some (rw3 (-1) 5 1)) 0)) (stH5 cells m c 66 0) := by
  rw [stepA_eq]
  kernel_rfl
theorem tn5_7 (x : Option D) (cells : List Int) (m c : Int) : stepA (rw3 1 1 3) (stE5 x (some (rw3 1 0 4)) (some (rw3 5 0 0)) (some (rw3 (-1) 5 1)) 0) (stH5 cells m c 66 0) = .ok (.nx (stE5 x (some (rw3 1 1 3)) (some (rw3 5 0 0)) (some (rw3 (-1) 4 2)) 0)) (stH5 cells m c 79 0) := by
  rw [stepA_eq]
  kernel_rfl
theorem tn5_8 (x : Option D) (cells : List Int) (m c : Int) : stepA (rw3 1 2 2) (stE5 x (some (rw3 1 1 3)) (some (rw3 5 0 0)) (some (rw3 (-1) 4 2)) 0) (stH5 cells m c 79 0) = .ok (.nx (stE5 x (some (rw3 1 2 2)) (some (rw3 5 0 0)) (some (rw3 (-1) 3 3)) 0)) (stH5 cells m c 93 0) := by
  rw [stepA_eq]
  kernel_rfl
theorem tn5_9 (x : Option D) (cells : List Int) (m c : Int) : stepA (rw3 1 3 1) (stE5 x (some (rw3 1 2 2)) (some (rw3 5 0 0)) (some (rw3 (-1) 3 3)) 0) (stH5 cells m c 93 0) = .ok (.nx (stE5 x (some (rw3 1 3 1)) (some (rw3 5 0 0)) (some (rw3 (-1) 2 4)) 0)) (stH5 cells m c 106 0) := by
  rw [stepA_eq]
  kernel_rfl
theorem tn5_10 (x : Option D) (cells : List Int) (m c : Int) : stepA (rw3 1 4 0) (stE5 x (some (rw3 1 3 1)) (some (rw3 5 0 0)) (some (rw3 (-1) 2 4)) 0) (stH5 cells m c 106 0) = .ok (.nx (stE5 x (some (rw3 1 4 0)) (some (rw3 5 0 0)) (some (rw3 (-1) 1 5)) 0)) (stH5 cells m c 116 0) := by
  rw [stepA_eq]
  kernel_rfl
theorem tn5_11 (x : Option D) (cells : List Int) (m c : Int) : stepA (rw3 2 0 3) (stE5 x (some (rw3 1 4 0)) (some (rw3 5 0 0)) (some (rw3 (-1) 1 5)) 0) (stH5 cells m c 116 0) = .ok (.nx (stE5 x (some (rw3 2 0 3)) (some (rw3 5 0 0)) (some (rw3 (-2) 5 2)) 0)) (stH5 cells m c 128 0) := by
  rw [stepA_eq]
  kernel_rfl
theorem tn5_12 (x : Option D) (cells : List Int) (m c : Int) : stepA (rw3 2 1 2) (stE5 x (some (rw3 2 0 3)) (some (rw3 5 0 0)) (some (rw3 (-2) 5 2)) 0) (stH5 cells m c 128 0) = .ok (.nx (stE5 x (some (rw3 2 1 2)) (some (rw3 5 0 0)) (some (rw3 (-2) 4 3)) 0)) (stH5 cells m c 142 0) := by
  rw [stepA_eq]
  kernel_rfl
theorem tn5_13 (x : Option D) (cells : List Int) (m c : Int) : stepA (rw3 2 2 1) (stE5 x (some (rw3 2 1 2)) (some (rw3 5 0 0)) (some (rw3 (-2) 4 3)) 0) (stH5 cells m c 142 0) = .ok (.nx (stE5 x (some (rw3 2 2 1)) (some (rw3 5 0 0)) (some (rw3 (-2) 3 4)) 0)) (stH5 cells m c 156 0) := by
  rw [stepA_eq]
  kernel_rfl
theorem tn5_14 (x : Option D) (cells : List Int) (m c : Int) : stepA (rw3 2 3 0) (stE5 x (some (rw3 2 2 1)) (some (rw3 5 0 0)) (some (rw3 (-2) 3 4)) 0) (stH5 cells m c 156 0) = .ok (.nx (stE5 x (some (rw3 2 3 0)) (some (rw3 5 0 0)) (some (rw3 (-2) 2 5)) 0)) (stH5 cells m c 168 0) := by
  rw [stepA_eq]
  kernel_rfl
theorem tn5_15 (x : Option D) (cells : List Int) (m c : Int) : stepA (rw3 3 0 2) (stE5 x (some (rw3 2 3 0)) (some (rw3 5 0 0)) (some (rw3 (-2) 2 5)) 0) (stH5 cells m c 168 0) = .ok (.nx (stE5 x (some (rw3 3 0 2)) (some (rw3 5 0 0)) (some (rw3 (-3) 5 3)) 0)) (stH5 cells m c 180 0) := by
  rw [stepA_eq]
  kernel_rfl
theorem tn5_16 (x : Option D) (cells : List Int) (m c : Int) : stepA (rw3 3 1 1) (stE5 x (some (rw3 3 0 2)) (some (rw3 5 0 0)) (some (rw3 (-3) 5 3)) 0) (stH5 cells m c 180 0) = .ok (.nx (stE5 x (some (rw3 3 1 1)) (some (rw3 5 0 0)) (some (rw3 (-3) 4 4)) 0)) (stH5 cells m c 193 0) := by
  rw [stepA_eq]
  kernel_rfl
theorem tn5_17 (x : Option D) (cells : List Int) (m c : Int) : stepA (rw3 3 2 0) (stE5 x (some (rw3 3 1 1)) (some (rw3 5 0 0)) (some (rw3 (-3) 4 4)) 0) (stH5 cells m c 193 0) = .ok (.nx (stE5 x (some (rw3 3 2 0)) (some (rw3 5 0 0)) (some (rw3 (-3) 3 5)) 0)) (stH5 cells m c 205 0) := by
  rw [stepA_eq]
  kernel_rfl
theorem tn5_18 (x : Option D) (cells : List Int) (m c : Int) : stepA (rw3 4 0 1) (stE5 x (some (rw3 3 2 0)) (some (rw3 5 0 0)) (some (rw3 (-3) 3 5)) 0) (stH5 cells m c 205 0) = .ok (.nx (stE5 x (some (rw3 4 0 1)) (some (rw3 5 0 0)) (some (rw3 (-4) 5 4)) 0)) (stH5 cells m c 215 0) := by
  rw [stepA_eq]
  kernel_rfl
theorem tn5_19 (x : Option D) (cells : List Int) (m c : Int) : stepA (rw3 4 1 0) (stE5 x (some (rw3 4 0 1)) (some (rw3 5 0 0)) (some (rw3 (-4) 5 4)) 0) (stH5 cells m c 215 0) = .ok (.nx (stE5 x (some (rw3 4 1 0)) (some (rw3 5 0 0)) (some (rw3 (-4) 4 5)) 0)) (stH5 cells m c 225 0) := by
  rw [stepA_eq]
  kernel_rfl
theorem tn5_20 (x : Option D) (cells : List Int) (m c : Int) : stepA (rw3 5 0 0) (stE5 x (some (rw3 4 1 0)) (some (rw3 5 0 0)) (some (rw3 (-4) 4 5)) 0) (stH5 cells m c 225 0) = .ok (.nx (stE5 x (some (rw3 5 0 0)) (some (rw3 5 0 0)) (some (rw3 (-5) 5 5)) 0)) (stH5 cells m c 231 0) := by
  rw [stepA_eq]
  kernel_rfl
def turns5 (x : Option D) (cells : List Int) (m c : Int) : List Turn := [((rw3 0 0 5), stE5 x (some (rw3 0 0 5)) (some (rw3 5 0 0)) (some (rw3 0 5 0)) 0, stH5 cells m c 6 0), ((rw3 0 1 4), stE5 x (some (rw3 0 1 4)) (some (rw3 5 0 0)) (some (rw3 0 4 1)) 0, stH5 cells m c 16 0), ((rw3 0 2 3), stE5 x (some (rw3 0 2 3)) (some (rw3 5 0 0)) (some (rw3 0 3 2)) 0, stH5 cells m c 28 0), ((rw3 0 3 2), stE5 x (some (rw3 0 3 2)) (some (rw3 5 0 0)) (some (rw3 0 2 3)) 0, stH5 cells m c 40 0), ((rw3 0 4 1), stE5 x (some (rw3 0 4 1)) (some (rw3 5 0 0)) (some (rw3 0 1 4)) 0, stH5 cells m c 50 0), ((rw3 0 5 0), stE5 x (some (rw3 0 5 0)) (some (rw3 5 0 0)) (some (rw3 0 0 5)) 0, stH5 cells m c 56 0), ((rw3 1 0 4), stE5 x (some (rw3 1 0 4)) (some (rw3 5 0 0)) (some (rw3 (-1) 5 1)) 0, stH5 cells m c 66 0), ((rw3 1 1 3), stE5 x (some (rw3 1 1 3)) (some (rw3 5 0 0)) (some (rw3 (-1) 4 2)) 0, stH5 cells m c 79 0), ((rw3 1 2 2), stE5 x (some (rw3 1 2 2)) (some (rw3 5 0 0)) (some (rw3 (-1) 3 3)) 0, stH5 cells m c 93 0), ((rw3 1 3 1), stE5 x (some (rw3 1 3 1)) (some (rw3 5 0 0)) (some (rw3 (-1) 2 4)) 0, stH5 cells m c 106 0), ((rw3 1 4 0), stE5 x (some (rw3 1 4 0)) (some (rw3 5 0 0)) (some (rw3 (-1) 1 5)) 0, stH5 cells m c 116 0), ((rw3 2 0 3), stE5 x (some (rw3 2 0 3)) (some (rw3 5 0 0)) (some (rw3 (-2) 5 2)) 0, stH5 cells m c 128 0), ((rw3 2 1 2), stE5 x (some (rw3 2 1 2)) (some (rw3 5 0 0)) (some (rw3 (-2) 4 3)) 0, stH5 cells m c 142 0), ((rw3 2 2 1), stE5 x (some (rw3 2 2 1)) (some (rw3 5 0 0)) (some (rw3 (-2) 3 4)) 0, stH5 cells m c 156 0), ((rw3 2 3 0), stE5 x (some (rw3 2 3 0)) (some (rw3 5 0 0)) (some (rw3 (-2) 2 5)) 0, stH5 cells m c 168 0), ((rw3 3 0 2), stE5 x (some (rw3 3 0 2)) (some (rw3 5 0 0)) (some (rw3 (-3) 5 3)) 0, stH5 cells m c 180 0), ((rw3 3 1 1), stE5 x (some (rw3 3 1 1)) (some (rw3 5 0 0)) (some (rw3 (-3) 4 4)) 0, stH5 cells m c 193 0), ((rw3 3 2 0), stE5 x (some (rw3 3 2 0)) (some (rw3 5 0 0)) (some (rw3 (-3) 3 5)) 0, stH5 cells m c 205 0), ((rw3 4 0 1), stE5 x (some (rw3 4 0 1)) (some (rw3 5 0 0)) (some (rw3 (-4) 5 4)) 0, stH5 cells m c 215 0), ((rw3 4 1 0), stE5 x (some (rw3 4 1 0)) (some (rw3 5 0 0)) (some (rw3 (-4) 4 5)) 0, stH5 cells m c 225 0), ((rw3 5 0 0), stE5 x (some (rw3 5 0 0)) (some (rw3 5 0 0)) (some (rw3 (-5) 5 5)) 0, stH5 cells m c 231 0)]
theorem mida5 (x : Option D) (cells : List Int) (m c : Int) : dSs (runF cs fds 11) cs midA [x, some (.ref 1), some (.int 5), none, none, none, none, none, none, none, none, none, none, none, none, none, none, none, none, none, none, none, none, none] (pot cells m c []) = .ok (.nx (ena5 x)) (pot cells m c [.lst sh5, .lst ev5]) :=
  (take_drop _ cs 2 midA _ _ _ _ (pre5 x cells m c)).trans (for4 _ _ _ rows5 (turns5 x cells m c) _ rfl (by kernel_rfl) (show 21 < FUEL from by decide) ⟨tn5_0 x cells m c, tn5_1 x cells m c, tn5_2 x cells m c, tn5_3 x cells m c, tn5_4 x cells m c, tn5_5 x cells m c, tn5_6 x cells m c, tn5_7 x cells m c, tn5_8 x cells m c, tn5_9 x cells m c, tn5_10 x cells m c, tn5_11 x cells m c, tn5_12 x cells m c, tn5_13 x cells m c, tn5_14 x cells m c, tn5_15 x cells m c, tn5_16 x cells m c, tn5_17 x cells m c, tn5_18 x cells m c, tn5_19 x cells m c, tn5_20 x cells m c, trivial⟩ (by kernel_rfl))
theorem midc5 (x : Option D) (cells : List Int) (m c : Int) : dSs (runF cs fds 11) cs midC (ena5 x) (pot cells m c [.lst sh5, .lst ev5]) = .ok (.nx (en5 x)) (pot cells m c [.lst sh5, .lst ev5]) := by
  rw [run_q, q_midC_eq]
  kernel_rfl
theorem f1_5 : runF cs fds 11 18 [.int 3, .int 5] [] = .ok (.d (.tup sh5)) [] := by
  rw [run_q]
  kernel_rfl
theorem g1_5 : runF cs fds 11 6 [.int 5] [] = .ok (.d (.tup ev5)) [] := by
  rw [run_q]
  kernel_rfl
theorem f2_5 (cells : List Int) (m c : Int) : biD .srt [.d (.ref 2)] (pot cells m c [.lst sh5, .lst ev5]) = some (.fl sh5) := by kernel_rfl
theorem g2_5 (cells : List Int) (m c : Int) : biD .srt [.d (.ref 3)] (pot cells m c [.lst sh5, .lst ev5]) = some (.fl ev5) := by kernel_rfl
theorem f4_5 (h : Hh) : eqD (.d (.tup sh5)) (.d (.tup sh5)) h = some true := by kernel_rfl
theorem g4_5 (h : Hh) : eqD (.d (.tup ev5)) (.d (.tup ev5)) h = some true := by kernel_rfl
theorem midb5 (x : Option D) (cells : List Int) (m c : Int) : dSs (runF cs fds 11) cs midB (ena5 x) (pot cells m c [.lst sh5, .lst ev5]) = .ok (.nx (en5 x)) (pot cells m c [.lst sh5, .lst ev5]) :=
  (take_drop _ cs 3 midB _ _ _ _ (midc5 x cells m c)).trans (last8 5 _ _ sh5 ev5 rfl rfl rfl f1_5 (f2_5 cells m c) (f4_5 _) g1_5 (g2_5 cells m c) (g4_5 _))
def enl5 (x a6 a14 a15 a16 a17 : Option D) : En := [x, some (.ref 1), some (.int 5), some (.lst rows5), some (rw3 5 0 0), some lad5, a6, none, none, none, some (.ref 2), some (.ref 3), some (.int 0), some (rw3 5 0 0), a14, a15, a16, a17, some (rw3 (-5) 5 5), none, none, none, none, none]
def tab5_0 : List (D × D × Bool × Bool × Bool) := [(sq 0 0 5 0 5 0 5 0 0, sq 0 0 5 0 5 0 5 0 0, false, false, true), (sq 0 0 5 1 4 0 4 1 0, sq 0 0 5 0 4 1 4 1 0, false, false, false), (sq 0 0 5 2 3 0 3 2 0, sq 0 0 5 0 3 2 3 2 0, false, false, false), (sq 0 0 5 3 2 0 2 3 0, sq 0 0 5 0 2 3 2 3 0, false, false, false), (sq 0 0 5 4 1 0 1 4 0, sq 0 0 5 0 1 4 1 4 0, false, false, false), (sq 0 0 5 5 0 0 0 5 0, sq 0 0 5 0 0 5 0 5 0, false, false, false), (sq 0 1 4 0 4 1 5 0 0, sq 0 1 4 1 4 0 5 0 0, false, false, false), (sq 0 1 4 1 3 1 4 1 0, sq 0 1 4 1 3 1 4 1 0, false, false, true), (sq 0 1 4 1 4 0 4 0 1, sq 0 1 4 0 4 1 4 0 1, false, false, false), (sq 0 1 4 2 2 1 3 2 0, sq 0 1 4 1 2 2 3 2 0, false, false, false), (sq 0 1 4 2 3 0 3 1 1, sq 0 1 4 0 3 2 3 1 1, false, false, false), (sq 0 1 4 3 1 1 2 3 0, sq 0 1 4 1 1 3 2 3 0, false, false, false), (sq 0 1 4 3 2 0 2 2 1, sq 0 1 4 0 2 3 2 2 1, false, false, false), (sq 0 1 4 4 0 1 1 4 0, sq 0 1 4 1 0 4 1 4 0, false, false, false), (sq 0 1 4 4 1 0 1 3 1, sq 0 1 4 0 1 4 1 3 1, false, false, false), (sq 0 1 4 5 0 0 0 4 1, sq 0 1 4 0 0 5 0 4 1, false, false, false)]
theorem body5_0 (x a6 a14 a15 a16 a17 : Option D) (cells : List Int) (m c : Int) : tab5_0.map (fun t => stepQ t.1 (enl5 x a6 a14 a15 a16 a17) (pot cells m c [.lst sh5, .lst ev5])) = tab5_0.map (fun t => .ok (.nx (enl5 x (some t.1) (some (.bl t.2.2.1)) (some (due t.2.2.1 t.2.2.2.1)) (some t.2.1) (some (.bl t.2.2.2.2)))) (pot cells m c [.lst sh5, .lst ev5])) := by kernel_rfl
def tab5_1 : List (D × D × Bool × Bool × Bool) := [(sq 0 2 3 0 3 2 5 0 0, sq 0 2 3 2 3 0 5 0 0, false, false, false), (sq 0 2 3 1 2 2 4 1 0, sq 0 2 3 2 2 1 4 1 0, false, false, false), (sq 0 2 3 1 3 1 4 0 1, sq 0 2 3 1 3 1 4 0 1, false, false, true), (sq 0 2 3 2 1 2 3 2 0, sq 0 2 3 2 1 2 3 2 0, false, false, true), (sq 0 2 3 2 2 1 3 1 1, sq 0 2 3 1 2 2 3 1 1, false, false, false), (sq 0 2 3 2 3 0 3 0 2, sq 0 2 3 0 3 2 3 0 2, false, false, false), (sq 0 2 3 3 0 2 2 3 0, sq 0 2 3 2 0 3 2 3 0, false, false, false), (sq 0 2 3 3 1 1 2 2 1, sq 0 2 3 1 1 3 2 2 1, false, false, false), (sq 0 2 3 3 2 0 2 1 2, sq 0 2 3 0 2 3 2 1 2, false, false, false), (sq 0 2 3 4 0 1 1 3 1, sq 0 2 3 1 0 4 1 3 1, false, false, false), (sq 0 2 3 4 1 0 1 2 2, sq 0 2 3 0 1 4 1 2 2, false, false, false), (sq 0 2 3 5 0 0 0 3 2, sq 0 2 3 0 0 5 0 3 2, false, false, false), (sq 0 3 2 0 2 3 5 0 0, sq 0 3 2 3 2 0 5 0 0, false, false, false), (sq 0 3 2 1 1 3 4 1 0, sq 0 3 2 3 1 1 4 1 0, false, false, false), (sq 0 3 2 1 2 2 4 0 1, sq 0 3 2 2 2 1 4 0 1, false, false, false), (sq 0 3 2 2 0 3 3 2 0, sq 0 3 2 3 0 2 3 2 0, false, false, false)]
theorem body5_1 (x a6 a14 a15 a16 a17 : Option D) (cells : List Int) (m c : Int) : tab5_1.map (fun t => stepQ t.1 (enl5 x a6 a14 a15 a16 a17) (pot cells m c [.lst sh5, .lst ev5])) = tab5_1.map (fun t => .ok (.nx (enl5 x (some t.1) (some (.bl t.2.2.1)) (some (due t.2.2.1 t.2.2.2.1)) (some t.2.1) (some (.bl t.2.2.2.2)))) (pot cells m c [.lst sh5, .lst ev5])) := by kernel_rfl
def tab5_2 : List (D × D × Bool × Bool × Bool) := [(sq 0 3 2 2 1 2 3 1 1, sq 0 3 2 2 1 2 3 1 1, false, false, true), (sq 0 3 2 2 2 1 3 0 2, sq 0 3 2 1 2 2 3 0 2, false, false, false), (sq 0 3 2 3 0 2 2 2 1, sq 0 3 2 2 0 3 2 2 1, false, false, false), (sq 0 3 2 3 1 1 2 1 2, sq 0 3 2 1 1 3 2 1 2, false, false, false), (sq 0 3 2 3 2 0 2 0 3, sq 0 3 2 0 2 3 2 0 3, false, false, false), (sq 0 3 2 4 0 1 1 2 2, sq 0 3 2 1 0 4 1 2 2, false, false, false), (sq 0 3 2 4 1 0 1 1 3, sq 0 3 2 0 1 4 1 1 3, false, false, false), (sq 0 3 2 5 0 0 0 2 3, sq 0 3 2 0 0 5 0 2 3, false, false, false), (sq 0 4 1 0 1 4 5 0 0, sq 0 4 1 4 1 0 5 0 0, false, false, false), (sq 0 4 1 1 0 4 4 1 0, sq 0 4 1 4 0 1 4 1 0, false, false, false), (sq 0 4 1 1 1 3 4 0 1, sq 0 4 1 3 1 1 4 0 1, false, false, false), (sq 0 4 1 2 0 3 3 1 1, sq 0 4 1 3 0 2 3 1 1, false, false, false), (sq 0 4 1 2 1 2 3 0 2, sq 0 4 1 2 1 2 3 0 2, false, false, true), (sq 0 4 1 3 0 2 2 1 2, sq 0 4 1 2 0 3 2 1 2, false, false, false), (sq 0 4 1 3 1 1 2 0 3, sq 0 4 1 1 1 3 2 0 3, false, false, false), (sq 0 4 1 4 0 1 1 1 3, sq 0 4 1 1 0 4 1 1 3, false, false, false)]
theorem body5_2 (x a6 a14 a15 a16 a17 : Option D) (cells : List Int) (m c : Int) : tab5_2.map (fun t => stepQ t.1 (enl5 x a6 a14 a15 a16 a17) (pot cells m c [.lst sh5, .lst ev5])) = tab5_2.map (fun t => .ok (.nx (enl5 x (some t.1) (some (.bl t.2.2.1)) (some (due t.2.2.1 t.2.2.2.1)) (some t.2.1) (some (.bl t.2.2.2.2)))) (pot cells m c [.lst sh5, .lst ev5])) := by kernel_rfl
def tab5_3 : List (D × D × Bool × Bool × Bool) := [(sq 0 4 1 4 1 0 1 0 4, sq 0 4 1 0 1 4 1 0 4, false, false, false), (sq 0 4 1 5 0 0 0 1 4, sq 0 4 1 0 0 5 0 1 4, false, false, false), (sq 0 5 0 0 0 5 5 0 0, sq 0 5 0 5 0 0 5 0 0, false, false, false), (sq 0 5 0 1 0 4 4 0 1, sq 0 5 0 4 0 1 4 0 1, false, false, false), (sq 0 5 0 2 0 3 3 0 2, sq 0 5 0 3 0 2 3 0 2, false, false, false), (sq 0 5 0 3 0 2 2 0 3, sq 0 5 0 2 0 3 2 0 3, false, false, false), (sq 0 5 0 4 0 1 1 0 4, sq 0 5 0 1 0 4 1 0 4, false, false, false), (sq 0 5 0 5 0 0 0 0 5, sq 0 5 0 0 0 5 0 0 5, false, false, false), (sq 1 0 4 0 4 1 4 1 0, sq 1 0 4 1 4 0 4 1 0, false, false, false), (sq 1 0 4 0 5 0 4 0 1, sq 1 0 4 0 5 0 4 0 1, false, false, true), (sq 1 0 4 1 3 1 3 2 0, sq 1 0 4 1 3 1 3 2 0, false, false, true), (sq 1 0 4 1 4 0 3 1 1, sq 1 0 4 0 4 1 3 1 1, false, false, false), (sq 1 0 4 2 2 1 2 3 0, sq 1 0 4 1 2 2 2 3 0, false, false, false), (sq 1 0 4 2 3 0 2 2 1, sq 1 0 4 0 3 2 2 2 1, false, false, false), (sq 1 0 4 3 1 1 1 4 0, sq 1 0 4 1 1 3 1 4 0, false, false, false), (sq 1 0 4 3 2 0 1 3 1, sq 1 0 4 0 2 3 1 3 1, false, false, false)]
theorem body5_3 (x a6 a14 a15 a16 a17 : Option D) (cells : List Int) (m c : Int) : tab5_3.map (fun t => stepQ t.1 (enl5 x a6 a14 a15 a16 a17) (pot cells m c [.lst sh5, .lst ev5])) = tab5_3.map (fun t => .ok (.nx (enl5 x (some t.1) (some (.bl t.2.2.1)) (some (due t.2.2.1 t.2.2.2.1)) (some t.2.1) (some (.bl t.2.2.2.2)))) (pot cells m c [.lst sh5, .lst ev5])) := by kernel_rfl
def tab5_4 : List (D × D × Bool × Bool × Bool) := [(sq 1 0 4 4 0 1 0 5 0, sq 1 0 4 1 0 4 0 5 0, false, false, false), (sq 1 0 4 4 1 0 0 4 1, sq 1 0 4 0 1 4 0 4 1, false, false, false), (sq 1 1 3 0 3 2 4 1 0, sq 1 1 3 2 3 0 4 1 0, false, false, false), (sq 1 1 3 0 4 1 4 0 1, sq 1 1 3 1 4 0 4 0 1, false, false, false), (sq 1 1 3 1 2 2 3 2 0, sq 1 1 3 2 2 1 3 2 0, false, false, false), (sq 1 1 3 1 3 1 3 1 1, sq 1 1 3 1 3 1 3 1 1, false, false, true), (sq 1 1 3 1 4 0 3 0 2, sq 1 1 3 0 4 1 3 0 2, false, false, false), (sq 1 1 3 2 1 2 2 3 0, sq 1 1 3 2 1 2 2 3 0, false, false, true), (sq 1 1 3 2 2 1 2 2 1, sq 1 1 3 1 2 2 2 2 1, false, false, false), (sq 1 1 3 2 3 0 2 1 2, sq 1 1 3 0 3 2 2 1 2, false, false, false), (sq 1 1 3 3 0 2 1 4 0, sq 1 1 3 2 0 3 1 4 0, false, false, false), (sq 1 1 3 3 1 1 1 3 1, sq 1 1 3 1 1 3 1 3 1, false, false, false), (sq 1 1 3 3 2 0 1 2 2, sq 1 1 3 0 2 3 1 2 2, false, false, false), (sq 1 1 3 4 0 1 0 4 1, sq 1 1 3 1 0 4 0 4 1, false, false, false), (sq 1 1 3 4 1 0 0 3 2, sq 1 1 3 0 1 4 0 3 2, false, false, false), (sq 1 2 2 0 2 3 4 1 0, sq 1 2 2 3 2 0 4 1 0, false, false, false)]
theorem body5_4 (x a6 a14 a15 a16 a17 : Option D) (cells : List Int) (m c : Int) : tab5_4.map (fun t => stepQ t.1 (enl5 x a6 a14 a15 a16 a17) (pot cells m c [.lst sh5, .lst ev5])) = tab5_4.map (fun t => .ok (.nx (enl5 x (some t.1) (some (.bl t.2.2.1)) (some (due t.2.2.1 t.2.2.2.1)) (some t.2.1) (some (.bl t.2.2.2.2)))) (pot cells m c [.lst sh5, .lst ev5])) := by kernel_rfl
def tab5_5 : List (D × D × Bool × Bool × Bool) := [(sq 1 2 2 0 3 2 4 0 1, sq 1 2 2 2 3 0 4 0 1, false, false, false), (sq 1 2 2 1 1 3 3 2 0, sq 1 2 2 3 1 1 3 2 0, false, false, false), (sq 1 2 2 1 2 2 3 1 1, sq 1 2 2 2 2 1 3 1 1, false, false, false), (sq 1 2 2 1 3 1 3 0 2, sq 1 2 2 1 3 1 3 0 2, false, false, true), (sq 1 2 2 2 0 3 2 3 0, sq 1 2 2 3 0 2 2 3 0, false, false, false), (sq 1 2 2 2 1 2 2 2 1, sq 1 2 2 2 1 2 2 2 1, false, false, true), (sq 1 2 2 2 2 1 2 1 2, sq 1 2 2 1 2 2 2 1 2, false, false, false), (sq 1 2 2 2 3 0 2 0 3, sq 1 2 2 0 3 2 2 0 3, false, false, false), (sq 1 2 2 3 0 2 1 3 1, sq 1 2 2 2 0 3 1 3 1, false, false, false), (sq 1 2 2 3 1 1 1 2 2, sq 1 2 2 1 1 3 1 2 2, false, false, false), (sq 1 2 2 3 2 0 1 1 3, sq 1 2 2 0 2 3 1 1 3, false, false, false), (sq 1 2 2 4 0 1 0 3 2, sq 1 2 2 1 0 4 0 3 2, false, false, false), (sq 1 2 2 4 1 0 0 2 3, sq 1 2 2 0 1 4 0 2 3, false, false, false), (sq 1 3 1 0 1 4 4 1 0, sq 1 3 1 4 1 0 4 1 0, false, false, false), (sq 1 3 1 0 2 3 4 0 1, sq 1 3 1 3 2 0 4 0 1, false, false, false), (sq 1 3 1 1 0 4 3 2 0, sq 1 3 1 4 0 1 3 2 0, false, false, false)]
theorem body5_5 (x a6 a14 a15 a16 a17 : Option D) (cells : List Int) (m c : Int) : tab5_5.map (fun t => stepQ t.1 (enl5 x a6 a14 a15 a16 a17) (pot cells m c [.lst sh5, .lst ev5])) = tab5_5.map (fun t => .ok (.nx (enl5 x (some t.1) (some (.bl t.2.2.1)) (some (due t.2.2.1 t.2.2.2.1)) (some t.2.1) (some (.bl t.2.2.2.2)))) (pot cells m c [.lst sh5, .lst ev5])) := by kernel_rfl
def tab5_6 : List (D × D × Bool × Bool × Bool) := [(sq 1 3 1 1 1 3 3 1 1, sq 1 3 1 3 1 1 3 1 1, false, false, false), (sq 1 3 1 1 2 2 3 0 2, sq 1 3 1 2 2 1 3 0 2, false, false, false), (sq 1 3 1 2 0 3 2 2 1, sq 1 3 1 3 0 2 2 2 1, false, false, false), (sq 1 3 1 2 1 2 2 1 2, sq 1 3 1 2 1 2 2 1 2, false, false, true), (sq 1 3 1 2 2 1 2 0 3, sq 1 3 1 1 2 2 2 0 3, false, false, false), (sq 1 3 1 3 0 2 1 2 2, sq 1 3 1 2 0 3 1 2 2, false, false, false), (sq 1 3 1 3 1 1 1 1 3, sq 1 3 1 1 1 3 1 1 3, false, false, false), (sq 1 3 1 3 2 0 1 0 4, sq 1 3 1 0 2 3 1 0 4, false, false, false), (sq 1 3 1 4 0 1 0 2 3, sq 1 3 1 1 0 4 0 2 3, false, false, false), (sq 1 3 1 4 1 0 0 1 4, sq 1 3 1 0 1 4 0 1 4, false, false, false), (sq 1 4 0 0 0 5 4 1 0, sq 1 4 0 5 0 0 4 1 0, false, false, false), (sq 1 4 0 0 1 4 4 0 1, sq 1 4 0 4 1 0 4 0 1, false, false, false), (sq 1 4 0 1 0 4 3 1 1, sq 1 4 0 4 0 1 3 1 1, false, false, false), (sq 1 4 0 1 1 3 3 0 2, sq 1 4 0 3 1 1 3 0 2, false, false, false), (sq 1 4 0 2 0 3 2 1 2, sq 1 4 0 3 0 2 2 1 2, false, false, false), (sq 1 4 0 2 1 2 2 0 3, sq 1 4 0 2 1 2 2 0 3, false, false, true)]
theorem body5_6 (x a6 a14 a15 a16 a17 : Option D) (cells : List Int) (m c : Int) : tab5_6.map (fun t => stepQ t.1 (enl5 x a6 a14 a15 a16 a17) (pot cells m c [.lst sh5, .lst ev5])) = tab5_6.map (fun t => .ok (.nx (enl5 x (some t.1) (some (.bl t.2.2.1)) (some (due t.2.2.1 t.2.2.2.1)) (some t.2.1) (some (.bl t.2.2.2.2)))) (pot cells m c [.lst sh5, .lst ev5])) := by kernel_rfl
def tab5_7 : List (D × D × Bool × Bool × Bool) := [(sq 1 4 0 3 0 2 1 1 3, sq 1 4 0 2 0 3 1 1 3, false, false, false), (sq 1 4 0 3 1 1 1 0 4, sq 1 4 0 1 1 3 1 0 4, false, false, false), (sq 1 4 0 4 0 1 0 1 4, sq 1 4 0 1 0 4 0 1 4, false, false, false), (sq 1 4 0 4 1 0 0 0 5, sq 1 4 0 0 1 4 0 0 5, false, false, false), (sq 2 0 3 0 3 2 3 2 0, sq 2 0 3 2 3 0 3 2 0, false, false, false), (sq 2 0 3 0 4 1 3 1 1, sq 2 0 3 1 4 0 3 1 1, false, false, false), (sq 2 0 3 0 5 0 3 0 2, sq 2 0 3 0 5 0 3 0 2, false, false, true), (sq 2 0 3 1 2 2 2 3 0, sq 2 0 3 2 2 1 2 3 0, false, false, false), (sq 2 0 3 1 3 1 2 2 1, sq 2 0 3 1 3 1 2 2 1, false, false, true), (sq 2 0 3 1 4 0 2 1 2, sq 2 0 3 0 4 1 2 1 2, false, false, false), (sq 2 0 3 2 1 2 1 4 0, sq 2 0 3 2 1 2 1 4 0, false, false, true), (sq 2 0 3 2 2 1 1 3 1, sq 2 0 3 1 2 2 1 3 1, false, false, false), (sq 2 0 3 2 3 0 1 2 2, sq 2 0 3 0 3 2 1 2 2, false, false, false), (sq 2 0 3 3 0 2 0 5 0, sq 2 0 3 2 0 3 0 5 0, false, false, false), (sq 2 0 3 3 1 1 0 4 1, sq 2 0 3 1 1 3 0 4 1, false, false, false), (sq 2 0 3 3 2 0 0 3 2, sq 2 0 3 0 2 3 0 3 2, false, false, false)]
theorem body5_7 (x a6 a14 a15 a16 a17 : Option D) (cells : List Int) (m c : Int) : tab5_7.map (fun t => stepQ t.1 (enl5 x a6 a14 a15 a16 a17) (pot cells m c [.lst sh5, .lst ev5])) = tab5_7.map (fun t => .ok (.nx (enl5 x (some t.1) (some (.bl t.2.2.1)) (some (due t.2.2.1 t.2.2.2.1)) (some t.2.1) (some (.bl t.2.2.2.2)))) (pot cells m c [.lst sh5, .lst ev5])) := by kernel_rfl
def tab5_8 : List (D × D × Bool × Bool × Bool) := [(sq 2 1 2 0 2 3 3 2 0, sq 2 1 2 3 2 0 3 2 0, false, false, false), (sq 2 1 2 0 3 2 3 1 1, sq 2 1 2 2 3 0 3 1 1, false, false, false), (sq 2 1 2 0 4 1 3 0 2, sq 2 1 2 1 4 0 3 0 2, false, false, false), (sq 2 1 2 1 1 3 2 3 0, sq 2 1 2 3 1 1 2 3 0, false, false, false), (sq 2 1 2 1 2 2 2 2 1, sq 2 1 2 2 2 1 2 2 1, false, false, false), (sq 2 1 2 1 3 1 2 1 2, sq 2 1 2 1 3 1 2 1 2, false, false, true), (sq 2 1 2 1 4 0 2 0 3, sq 2 1 2 0 4 1 2 0 3, false, false, false), (sq 2 1 2 2 0 3 1 4 0, sq 2 1 2 3 0 2 1 4 0, false, false, false), (sq 2 1 2 2 1 2 1 3 1, sq 2 1 2 2 1 2 1 3 1, false, false, true), (sq 2 1 2 2 2 1 1 2 2, sq 2 1 2 1 2 2 1 2 2, false, false, false), (sq 2 1 2 2 3 0 1 1 3, sq 2 1 2 0 3 2 1 1 3, false, false, false), (sq 2 1 2 3 0 2 0 4 1, sq 2 1 2 2 0 3 0 4 1, false, false, false), (sq 2 1 2 3 1 1 0 3 2, sq 2 1 2 1 1 3 0 3 2, false, false, false), (sq 2 1 2 3 2 0 0 2 3, sq 2 1 2 0 2 3 0 2 3, false, false, false), (sq 2 2 1 0 1 4 3 2 0, sq 2 2 1 4 1 0 3 2 0, false, false, false), (sq 2 2 1 0 2 3 3 1 1, sq 2 2 1 3 2 0 3 1 1, false, false, false)]
theorem body5_8 (x a6 a14 a15 a16 a17 : Option D) (cells : List Int) (m c : Int) : tab5_8.map (fun t => stepQ t.1 (enl5 x a6 a14 a15 a16 a17) (pot cells m c [.lst sh5, .lst ev5])) = tab5_8.map (fun t => .ok (.nx (enl5 x (some t.1) (some (.bl t.2.2.1)) (some (due t.2.2.1 t.2.2.2.1)) (some t.2.1) (some (.bl t.2.2.2.2)))) (pot cells m c [.lst sh5, .lst ev5])) := by kernel_rfl
def tab5_9 : List (D × D × Bool × Bool × Bool) := [(sq 2 2 1 0 3 2 3 0 2, sq 2 2 1 2 3 0 3 0 2, false, false, false), (sq 2 2 1 1 0 4 2 3 0, sq 2 2 1 4 0 1 2 3 0, false, false, false), (sq 2 2 1 1 1 3 2 2 1, sq 2 2 1 3 1 1 2 2 1, false, false, false), (sq 2 2 1 1 2 2 2 1 2, sq 2 2 1 2 2 1 2 1 2, false, false, false), (sq 2 2 1 1 3 1 2 0 3, sq 2 2 1 1 3 1 2 0 3, false, false, true), (sq 2 2 1 2 0 3 1 3 1, sq 2 2 1 3 0 2 1 3 1, false, false, false), (sq 2 2 1 2 1 2 1 2 2, sq 2 2 1 2 1 2 1 2 2, false, false, true), (sq 2 2 1 2 2 1 1 1 3, sq 2 2 1 1 2 2 1 1 3, false, false, false), (sq 2 2 1 2 3 0 1 0 4, sq 2 2 1 0 3 2 1 0 4, false, false, false), (sq 2 2 1 3 0 2 0 3 2, sq 2 2 1 2 0 3 0 3 2, false, false, false), (sq 2 2 1 3 1 1 0 2 3, sq 2 2 1 1 1 3 0 2 3, false, false, false), (sq 2 2 1 3 2 0 0 1 4, sq 2 2 1 0 2 3 0 1 4, false, false, false), (sq 2 3 0 0 0 5 3 2 0, sq 2 3 0 5 0 0 3 2 0, false, false, false), (sq 2 3 0 0 1 4 3 1 1, sq 2 3 0 4 1 0 3 1 1, false, false, false), (sq 2 3 0 0 2 3 3 0 2, sq 2 3 0 3 2 0 3 0 2, false, false, false), (sq 2 3 0 1 0 4 2 2 1, sq 2 3 0 4 0 1 2 2 1, false, false, false)]
theorem body5_9 (x a6 a14 a15 a16 a17 : Option D) (cells : List Int) (m c : Int) : tab5_9.map (fun t => stepQ t.1 (enl5 x a6 a14 a15 a16 a17) (pot cells m c [.lst sh5, .lst ev5])) = tab5_9.map (fun t => .ok (.nx (enl5 x (some t.1) (some (.bl t.2.2.1)) (some (due t.2.2.1 t.2.2.2.1)) (some t.2.1) (some (.bl t.2.2.2.2)))) (pot cells m c [.lst sh5, .lst ev5])) := by kernel_rfl
def tab5_10 : List (D × D × Bool × Bool × Bool) := [(sq 2 3 0 1 1 3 2 1 2, sq 2 3 0 3 1 1 2 1 2, false, false, false), (sq 2 3 0 1 2 2 2 0 3, sq 2 3 0 2 2 1 2 0 3, false, false, false), (sq 2 3 0 2 0 3 1 2 2, sq 2 3 0 3 0 2 1 2 2, false, false, false), (sq 2 3 0 2 1 2 1 1 3, sq 2 3 0 2 1 2 1 1 3, false, false, true), (sq 2 3 0 2 2 1 1 0 4, sq 2 3 0 1 2 2 1 0 4, false, false, false), (sq 2 3 0 3 0 2 0 2 3, sq 2 3 0 2 0 3 0 2 3, false, false, false), (sq 2 3 0 3 1 1 0 1 4, sq 2 3 0 1 1 3 0 1 4, false, false, false), (sq 2 3 0 3 2 0 0 0 5, sq 2 3 0 0 2 3 0 0 5, false, false, false), (sq 3 0 2 0 2 3 2 3 0, sq 3 0 2 3 2 0 2 3 0, false, false, false), (sq 3 0 2 0 3 2 2 2 1, sq 3 0 2 2 3 0 2 2 1, false, false, false), (sq 3 0 2 0 4 1 2 1 2, sq 3 0 2 1 4 0 2 1 2, false, false, false), (sq 3 0 2 0 5 0 2 0 3, sq 3 0 2 0 5 0 2 0 3, false, false, true), (sq 3 0 2 1 1 3 1 4 0, sq 3 0 2 3 1 1 1 4 0, false, false, false), (sq 3 0 2 1 2 2 1 3 1, sq 3 0 2 2 2 1 1 3 1, false, false, false), (sq 3 0 2 1 3 1 1 2 2, sq 3 0 2 1 3 1 1 2 2, false, false, true), (sq 3 0 2 1 4 0 1 1 3, sq 3 0 2 0 4 1 1 1 3, false, false, false)]
theorem body5_10 (x a6 a14 a15 a16 a17 : Option D) (cells : List Int) (m c : Int) : tab5_10.map (fun t => stepQ t.1 (enl5 x a6 a14 a15 a16 a17) (pot cells m c [.lst sh5, .lst ev5])) = tab5_10.map (fun t => .ok (.nx (enl5 x (some t.1) (some (.bl t.2.2.1)) (some (due t.2.2.1 t.2.2.2.1)) (some t.2.1) (some (.bl t.2.2.2.2)))) (pot cells m c [.lst sh5, .lst ev5])) := by kernel_rfl
def tab5_11 : List (D × D × Bool × Bool × Bool) := [(sq 3 0 2 2 0 3 0 5 0, sq 3 0 2 3 0 2 0 5 0, false, false, false), (sq 3 0 2 2 1 2 0 4 1, sq 3 0 2 2 1 2 0 4 1, false, false, true), (sq 3 0 2 2 2 1 0 3 2, sq 3 0 2 1 2 2 0 3 2, false, false, false), (sq 3 0 2 2 3 0 0 2 3, sq 3 0 2 0 3 2 0 2 3, false, false, false), (sq 3 1 1 0 1 4 2 3 0, sq 3 1 1 4 1 0 2 3 0, false, false, false), (sq 3 1 1 0 2 3 2 2 1, sq 3 1 1 3 2 0 2 2 1, false, false, false), (sq 3 1 1 0 3 2 2 1 2, sq 3 1 1 2 3 0 2 1 2, false, false, false), (sq 3 1 1 0 4 1 2 0 3, sq 3 1 1 1 4 0 2 0 3, false, false, false), (sq 3 1 1 1 0 4 1 4 0, sq 3 1 1 4 0 1 1 4 0, false, false, false), (sq 3 1 1 1 1 3 1 3 1, sq 3 1 1 3 1 1 1 3 1, false, false, false), (sq 3 1 1 1 2 2 1 2 2, sq 3 1 1 2 2 1 1 2 2, false, false, false), (sq 3 1 1 1 3 1 1 1 3, sq 3 1 1 1 3 1 1 1 3, false, false, true), (sq 3 1 1 1 4 0 1 0 4, sq 3 1 1 0 4 1 1 0 4, false, false, false), (sq 3 1 1 2 0 3 0 4 1, sq 3 1 1 3 0 2 0 4 1, false, false, false), (sq 3 1 1 2 1 2 0 3 2, sq 3 1 1 2 1 2 0 3 2, false, false, true), (sq 3 1 1 2 2 1 0 2 3, sq 3 1 1 1 2 2 0 2 3, false, false, false)]
theorem body5_11 (x a6 a14 a15 a16 a17 : Option D) (cells : List Int) (m c : Int) : tab5_11.map (fun t => stepQ t.1 (enl5 x a6 a14 a15 a16 a17) (pot cells m c [.lst sh5, .lst ev5])) = tab5_11.map (fun t => .ok (.nx (enl5 x (some t.1) (some (.bl t.2.2.1)) (some (due t.2.2.1 t.2.2.2.1)) (some t.2.1) (some (.bl t.2.2.2.2)))) (pot cells m c [.lst sh5, .lst ev5])) := by kernel_rfl
def tab5_12 : List (D × D × Bool × Bool × Bool) := [(sq 3 1 1 2 3 0 0 1 4, sq 3 1 1 0 3 2 0 1 4, false, false, false), (sq 3 2 0 0 0 5 2 3 0, sq 3 2 0 5 0 0 2 3 0, false, false, false), (sq 3 2 0 0 1 4 2 2 1, sq 3 2 0 4 1 0 2 2 1, false, false, false), (sq 3 2 0 0 2 3 2 1 2, sq 3 2 0 3 2 0 2 1 2, false, false, false), (sq 3 2 0 0 3 2 2 0 3, sq 3 2 0 2 3 0 2 0 3, false, false, false), (sq 3 2 0 1 0 4 1 3 1, sq 3 2 0 4 0 1 1 3 1, false, false, false), (sq 3 2 0 1 1 3 1 2 2, sq 3 2 0 3 1 1 1 2 2, false, false, false), (sq 3 2 0 1 2 2 1 1 3, sq 3 2 0 2 2 1 1 1 3, false, false, false), (sq 3 2 0 1 3 1 1 0 4, sq 3 2 0 1 3 1 1 0 4, false, false, true), (sq 3 2 0 2 0 3 0 3 2, sq 3 2 0 3 0 2 0 3 2, false, false, false), (sq 3 2 0 2 1 2 0 2 3, sq 3 2 0 2 1 2 0 2 3, false, false, true), (sq 3 2 0 2 2 1 0 1 4, sq 3 2 0 1 2 2 0 1 4, false, false, false), (sq 3 2 0 2 3 0 0 0 5, sq 3 2 0 0 3 2 0 0 5, false, false, false), (sq 4 0 1 0 1 4 1 4 0, sq 4 0 1 4 1 0 1 4 0, false, false, false), (sq 4 0 1 0 2 3 1 3 1, sq 4 0 1 3 2 0 1 3 1, false, false, false), (sq 4 0 1 0 3 2 1 2 2, sq 4 0 1 2 3 0 1 2 2, false, false, false)]
theorem body5_12 (x a6 a14 a15 a16 a17 : Option D) (cells : List Int) (m c : Int) : tab5_12.map (fun t => stepQ t.1 (enl5 x a6 a14 a15 a16 a17) (pot cells m c [.lst sh5, .lst ev5])) = tab5_12.map (fun t => .ok (.nx (enl5 x (some t.1) (some (.bl t.2.2.1)) (some (due t.2.2.1 t.2.2.2.1)) (some t.2.1) (some (.bl t.2.2.2.2)))) (pot cells m c [.lst sh5, .lst ev5])) := by kernel_rfl
def tab5_13 : List (D × D × Bool × Bool × Bool) := [(sq 4 0 1 0 4 1 1 1 3, sq 4 0 1 1 4 0 1 1 3, false, false, false), (sq 4 0 1 0 5 0 1 0 4, sq 4 0 1 0 5 0 1 0 4, false, false, true), (sq 4 0 1 1 0 4 0 5 0, sq 4 0 1 4 0 1 0 5 0, false, false, false), (sq 4 0 1 1 1 3 0 4 1, sq 4 0 1 3 1 1 0 4 1, false, false, false), (sq 4 0 1 1 2 2 0 3 2, sq 4 0 1 2 2 1 0 3 2, false, false, false), (sq 4 0 1 1 3 1 0 2 3, sq 4 0 1 1 3 1 0 2 3, false, false, true), (sq 4 0 1 1 4 0 0 1 4, sq 4 0 1 0 4 1 0 1 4, false, false, false), (sq 4 1 0 0 0 5 1 4 0, sq 4 1 0 5 0 0 1 4 0, false, false, false), (sq 4 1 0 0 1 4 1 3 1, sq 4 1 0 4 1 0 1 3 1, false, false, false), (sq 4 1 0 0 2 3 1 2 2, sq 4 1 0 3 2 0 1 2 2, false, false, false), (sq 4 1 0 0 3 2 1 1 3, sq 4 1 0 2 3 0 1 1 3, false, false, false), (sq 4 1 0 0 4 1 1 0 4, sq 4 1 0 1 4 0 1 0 4, false, false, false), (sq 4 1 0 1 0 4 0 4 1, sq 4 1 0 4 0 1 0 4 1, false, false, false), (sq 4 1 0 1 1 3 0 3 2, sq 4 1 0 3 1 1 0 3 2, false, false, false), (sq 4 1 0 1 2 2 0 2 3, sq 4 1 0 2 2 1 0 2 3, false, false, false), (sq 4 1 0 1 3 1 0 1 4, sq 4 1 0 1 3 1 0 1 4, false, false, true)]
theorem body5_13 (x a6 a14 a15 a16 a17 : Option D) (cells : List Int) (m c : Int) : tab5_13.map (fun t => stepQ t.1 (enl5 x a6 a14 a15 a16 a17) (pot cells m c [.lst sh5, .lst ev5])) = tab5_13.map (fun t => .ok (.nx (enl5 x (some t.1) (some (.bl t.2.2.1)) (some (due t.2.2.1 t.2.2.2.1)) (some t.2.1) (some (.bl t.2.2.2.2)))) (pot cells m c [.lst sh5, .lst ev5])) := by kernel_rfl
def tab5_14 : List (D × D × Bool × Bool × Bool) := [(sq 4 1 0 1 4 0 0 0 5, sq 4 1 0 0 4 1 0 0 5, false, false, false), (sq 5 0 0 0 0 5 0 5 0, sq 5 0 0 5 0 0 0 5 0, false, false, false), (sq 5 0 0 0 1 4 0 4 1, sq 5 0 0 4 1 0 0 4 1, false, false, false), (sq 5 0 0 0 2 3 0 3 2, sq 5 0 0 3 2 0 0 3 2, false, false, false), (sq 5 0 0 0 3 2 0 2 3, sq 5 0 0 2 3 0 0 2 3, false, false, false), (sq 5 0 0 0 4 1 0 1 4, sq 5 0 0 1 4 0 0 1 4, false, false, false), (sq 5 0 0 0 5 0 0 0 5, sq 5 0 0 0 5 0 0 0 5, false, false, true)]
theorem body5_14 (x a6 a14 a15 a16 a17 : Option D) (cells : List Int) (m c : Int) : tab5_14.map (fun t => stepQ t.1 (enl5 x a6 a14 a15 a16 a17) (pot cells m c [.lst sh5, .lst ev5])) = tab5_14.map (fun t => .ok (.nx (enl5 x (some t.1) (some (.bl t.2.2.1)) (some (due t.2.2.1 t.2.2.2.1)) (some t.2.1) (some (.bl t.2.2.2.2)))) (pot cells m c [.lst sh5, .lst ev5])) := by kernel_rfl
def tab5 : List (D × D × Bool × Bool × Bool) := tab5_0 ++ (tab5_1 ++ (tab5_2 ++ (tab5_3 ++ (tab5_4 ++ (tab5_5 ++ (tab5_6 ++ (tab5_7 ++ (tab5_8 ++ (tab5_9 ++ (tab5_10 ++ (tab5_11 ++ (tab5_12 ++ (tab5_13 ++ (tab5_14))))))))))))))
theorem tabs5 : tab5.map (·.1) = sh5 := by kernel_rfl
theorem body5 (x a6 a14 a15 a16 a17 : Option D) (cells : List Int) (m c : Int) : tab5.map (fun t => stepL t.1 (enl5 x a6 a14 a15 a16 a17) (pot cells m c [.lst sh5, .lst ev5])) = tab5.map (fun t => .ok (.nx (enl5 x (some t.1) (some (.bl t.2.2.1)) (some (due t.2.2.1 t.2.2.2.1)) (some t.2.1) (some (.bl t.2.2.2.2)))) (pot cells m c [.lst sh5, .lst ev5])) := by
  rw [stepL_eq]
  unfold tab5
  simp only [List.map_append, body5_0 x a6 a14 a15 a16 a17 cells m c, body5_1 x a6 a14 a15 a16 a17 cells m c, body5_2 x a6 a14 a15 a16 a17 cells m c, body5_3 x a6 a14 a15 a16 a17 cells m c, body5_4 x a6 a14 a15 a16 a17 cells m c, body5_5 x a6 a14 a15 a16 a17 cells m c, body5_6 x a6 a14 a15 a16 a17 cells m c, body5_7 x a6 a14 a15 a16 a17 cells m c, body5_8 x a6 a14 a15 a16 a17 cells m c, body5_9 x a6 a14 a15 a16 a17 cells m c, body5_10 x a6 a14 a15 a16 a17 cells m c, body5_11 x a6 a14 a15 a16 a17 cells m c, body5_12 x a6 a14 a15 a16 a17 cells m c, body5_13 x a6 a14 a15 a16 a17 cells m c, body5_14 x a6 a14 a15 a16 a17 cells m c]
end K99
end

section
set_option Elab.async false
set_option linter.all false
set_option maxRecDepth 100000
set_option maxHeartbeats 4000000
namespace MP
open PySem
theorem log_k {n : Nat} (h : n < 2 ^ 1000) : n.log2 < 1000 := by
  by_cases z : n = 0
  · rw [z]; decide
  · exact (Nat.log2_lt z).mpr h
theorem mulOk_log {i j : Int} (hi : i.natAbs < 2 ^ 1000) (hj : j.natAbs < 2 ^ 1000) : mulOk i j = true := by
  have a := log_k hi
  have b := log_k hj
  unfold mulOk
  rw [show Nat.blt (i.natAbs.log2 + j.natAbs.log2) 1000000 = true from Nat.blt_eq.mpr (by omega)]
  simp
theorem mul_log (i j : Int) (h : Hh) (hi : i.natAbs < 2 ^ 1000) (hj : j.natAbs < 2 ^ 1000) : mulD (.d (.int i)) (.d (.int j)) h = some (.d (.int (i * j))) := by
  show (if mulOk i j then _ else none) = _
  rw [mulOk_log hi hj]; rfl
theorem ret_int {cs : List D} {fds : List FD} {k i : Nat} {fd : FD} {ds : List D} {z : Int} (e : fds[i]? = some fd) (l : ds.length = fd.ps.length ∧ fd.ps.length ≤ fd.N.length) (fz : fd.fz = true)
    (b : dSs (runF cs fds k) cs fd.body (ds.map some ++ List.replicate (fd.N.length - ds.length) none) [] = .ok (.rt (.d (.int z))) []) : runF cs fds (k + 1) i ds [] = .ok (.d (.int z)) [] := by
  rw [run_rt e l b, fz]; rfl
end MP
namespace K99
open MP PySem
def big : Int := 1000000000000000000
def oo (s : Int) : Int := (s + 1) * (s + 2) / 2
def RR (s : Int) : Int := oo s * oo s * oo s
def FF (m : Int) : Int := m * (m - 1) * (m - 2) * (m - 3) / 24
def LL (s : Int) : Int := FF (s + 4) + FF (s + 3) + FF (s + 2)
def TT (s : Int) : Int := if s % 3 = 0 then 2 * (s / 3) * (s / 3) + 2 * (s / 3) + 1 else 0
def II (s : Int) : Int := if s % 3 = 0 then 1 else 0
theorem oo_bd {s : Int} (h0 : 0 ≤ s) (h1 : s < big) : 0 ≤ oo s ∧ oo s ≤ 1000000000000000000000000000000000000 := by
  unfold big at h1
  have a : (s + 1) * (s + 2) ≤ 1000000000000000000 * 1000000000000000001 := Int.mul_le_mul (by omega) (by omega) (by omega) (by omega)
  have b : 0 ≤ (s + 1) * (s + 2) := Int.mul_nonneg (by omega) (by omega)
  unfold oo
  omega
theorem rows_run {s : Int} (h0 : 0 ≤ s) (h1 : s < big) (k : Nat) : runF cs fds (k + 1) 9 [.int s] [] = .ok (.d (.int (RR s))) [] := by
  obtain ⟨o0, o1⟩ := oo_bd h0 h1
  unfold big at h1
  have q0 : 0 ≤ oo s * oo s := Int.mul_nonneg o0 o0
  have q1 : oo s * oo s ≤ 1000000000000000000000000000000000000 * 1000000000000000000000000000000000000 := Int.mul_le_mul o1 o1 o0 (by omega)
  have t1 (h : Hh) := mul_l (s + 1) (s + 2) h (by omega)
  have t2 (i : Int) (h : Hh) := fdiv_p i 2 h (by decide) (by decide)
  have t3 (h : Hh) := mul_log (oo s) (oo s) h (by omega) (by omega)
  have t4 (h : Hh) := mul_log (oo s * oo s) (oo s) h (by omega) (by omega)
  refine ret_int (fd := f_rows_number) rfl ⟨rfl, by decide⟩ rfl ?_
  show dSs (runF cs fds k) cs b_rows_number [some (.int s), none] [] = _
  simp only [b_rows_number, dSs, dS, dE, dEs, dT, kSeq, kAsg, kRet, kBin, kNm, kV, kC, ok_bind, binD, add_i, ofO_s, toD_d, t1, t2,
        List.getElem?_cons_succ, List.getElem?_cons_zero, List.set_cons_succ, List.set_cons_zero, List.length_cons, List.length_nil, Nat.reduceAdd, Nat.reduceLT, if_true]
  change (match ((ofO (mulD (.d (.int (oo s))) (.d (.int (oo s))) []) []).bind fun x h => ofO (mulD x (.d (.int (oo s))) h) h).bind (fun r h => Out.ok (Fl.rt r) h) with
    | Out.ok (Fl.nx en) h => Out.ok (Fl.nx en) h
    | Out.ok (Fl.rt r) h => Out.ok (Fl.rt r) h
    | Out.er e h => Out.er e h
    | Out.no => Out.no) = _
  rw [t3, ofO_s, ok_bind, t4]
  rfl
theorem four_run {m : Int} (h0 : 0 ≤ m) (h1 : m < big + 100) (k : Nat) : runF cs fds (k + 1) 10 [.int m] [] = .ok (.d (.int (FF m))) [] := by
  unfold big at h1
  have t1 (h : Hh) := mul_l m (m - 1) h (by omega)
  have t2 (x : Int) (h : Hh) := mul_l x (m - 2) h (by omega)
  have t3 (x : Int) (h : Hh) := mul_l x (m - 3) h (by omega)
  have t4 (i : Int) (h : Hh) := fdiv_p i 24 h (by decide) (by decide)
  refine ret_int (fd := f_four_of) rfl ⟨rfl, by decide⟩ rfl ?_
  show dSs (runF cs fds k) cs b_four_of [some (.int m)] [] = _
  simp only [b_four_of, dSs, dS, dE, dEs, dT, kSeq, kAsg, kRet, kBin, kNm, kV, kC, ok_bind, binD, add_i, sub_i, ofO_s, toD_d, t1, t2, t3, t4,
        List.getElem?_cons_succ, List.getElem?_cons_zero, FF]
theorem three_run {s : Int} (h0 : 0 ≤ s) (h1 : s < big) (k : Nat) : runF cs fds (k + 1) 5 [.int s] [] = .ok (.d (.int (TT s))) [] := by
  unfold big at h1
  have t1 (h : Hh) := mod_p s 3 h (by decide)
  have t2 (x : Int) (h : Hh) := mul_lo 2 x h (by decide)
  have t3 (x : Int) (h : Hh) := mul_l x (s / 3) h (by omega)
  have t4 (i : Int) (h : Hh) := fdiv_p i 3 h (by decide) (by decide)
  refine ret_int (fd := f_three_number) rfl ⟨rfl, by decide⟩ rfl ?_
  show dSs (runF cs fds k) cs b_three_number [some (.int s), none] [] = _
  by_cases g : s % 3 = 0
  · simp only [b_three_number, dSs, dS, dE, dEs, dT, kSeq, kAsg, kIteS, kPass, kCmp, cmpD, neD, eq_i, blR_s, truth_bl, kRet, kBin, kNm, kV, kC, ok_bind, binD, add_i, sub_i, ofO_s, toD_d, t1, t2, t3, t4, g, decide_true, Bool.not_true,
        List.getElem?_cons_succ, List.getElem?_cons_zero, List.set_cons_succ, List.set_cons_zero, List.length_cons, List.length_nil, Nat.reduceAdd, Nat.reduceLT, if_true, TT]
  · simp only [b_three_number, dSs, dS, dE, dEs, dT, kSeq, kAsg, kIteS, kPass, kCmp, cmpD, neD, eq_i, blR_s, truth_bl, kRet, kBin, kNm, kV, kC, ok_bind, binD, add_i, sub_i, ofO_s, toD_d, t1, t2, t3, t4, g, decide_false, Bool.not_false,
        List.getElem?_cons_succ, List.getElem?_cons_zero, List.set_cons_succ, List.set_cons_zero, List.length_cons, List.length_nil, Nat.reduceAdd, Nat.reduceLT, if_true, if_false, TT]
end K99
end

section
set_option Elab.async false
set_option linter.all false
set_option maxRecDepth 100000
set_option maxHeartbeats 4000000
namespace MP
open PySem
theorem for_cons {step : D → En → Hh → Out Fl} {d : D} {ds : List D} {en en' : En} {h h' : Hh} {n : Nat} (e : step d en h = .ok (.nx en') h') : forLoop step (n + 1) (.st (d :: ds)) en h = forLoop step n (.st ds) en' h' := by
  show (match step d en h with
      | .ok (.nx en') h' => forLoop step n (.st ds) en' h'
      | .ok (.rt r) h' => .ok (.rt r) h'
      | .er e h' => .er e h'
      | .no => .no) = _
  rw [e]
theorem for_ret {step : D → En → Hh → Out Fl} {d : D} {ds : List D} {en : En} {h h' : Hh} {n : Nat} {r : R} (e : step d en h = .ok (.rt r) h') : forLoop step (n + 1) (.st (d :: ds)) en h = .ok (.rt r) h' := by
  show (match step d en h with
      | .ok (.nx en') h' => forLoop step n (.st ds) en' h'
      | .ok (.rt r) h' => .ok (.rt r) h'
      | .er e h' => .er e h'
      | .no => .no) = _
  rw [e]
theorem for_nil {step : D → En → Hh → Out Fl} {en : En} {h : Hh} {n : Nat} : forLoop step (n + 1) (.st []) en h = .ok (.nx en) h := rfl
theorem lc_cons {step : D → Hh → Out (Option D)} {d y : D} {ds acc : List D} {h h' : Hh} {n : Nat} (e : step d h = .ok (some y) h') : lcLoop step (n + 1) (.st (d :: ds)) acc h = lcLoop step n (.st ds) (y :: acc) h' := by
  show (match step d h with
      | .ok (some x) h' => lcLoop step n (.st ds) (x :: acc) h'
      | .ok none h' => lcLoop step n (.st ds) acc h'
      | .er e h' => .er e h'
      | .no => .no) = _
  rw [e]
theorem lc_nil {step : D → Hh → Out (Option D)} {acc : List D} {h : Hh} {n : Nat} : lcLoop step (n + 1) (.st []) acc h = .ok acc.reverse h := rfl
theorem fuel8 : FUEL = 999992 + 1 + 1 + 1 + 1 + 1 + 1 + 1 + 1 := rfl
theorem viewT_t (ds : List D) : viewT (.d (.tup ds)) = some ds := rfl
end MP
namespace K99
open MP PySem
def wRows : D := .str ⟨#[114, 111, 119, 115]⟩
def wLines : D := .str ⟨#[108, 105, 110, 101, 115]⟩
def wEven : D := .str ⟨#[101, 118, 101, 110]⟩
def wBroken : D := .str ⟨#[98, 114, 111, 107, 101, 110]⟩
def ladF (a b c d : Int) : D := .tup [.tup [wRows, .int a], .tup [wLines, .int b], .tup [wEven, .int c], .tup [wBroken, .int d]]
theorem ladder_run {s : Int} (h0 : 0 ≤ s) (h1 : s < big) (k : Nat) : runF cs fds (k + 2) 11 [.int s] [] = .ok (.d (ladF (RR s) (LL s) (TT s) (II s))) [] := by
  have c1 := callD_cl [] rfl (four_run (m := s + 4) (by omega) (by unfold big at *; omega) k)
  have c2 := callD_cl [] rfl (four_run (m := s + 3) (by omega) (by unfold big at *; omega) k)
  have c3 := callD_cl [] rfl (four_run (m := s + 2) (by omega) (by unfold big at *; omega) k)
  have c4 := callD_cl [] rfl (rows_run h0 h1 k)
  have c5 := callD_cl [] rfl (three_run h0 h1 k)
  have t1 (h : Hh) := mod_p s 3 h (by decide)
  have n4 : line 4 = true := by decide
  have bz : ∀ a b c d : Int, biD .lzip [.d c_WORDS, .d (.tup [.int a, .int b, .int c, .int d])] [] = some (.fl [.tup [wRows, .int a], .tup [wLines, .int b], .tup [wEven, .int c], .tup [wBroken, .int d]]) := fun _ _ _ _ => rfl
  have bt : ∀ ds, biD .tup [.fl ds] [] = some (.d (.tup ds)) := fun _ => rfl
  have bi : ∀ k : Bool, biD .int [.d (.bl k)] [] = some (.d (.int (if k then 1 else 0))) := fun _ => rfl
  have ci : (if (decide (s % 3 = 0)) = true then (1 : Int) else 0) = II s := by unfold II; by_cases g : s % 3 = 0 <;> simp [g]
  have g1 : cs[1]? = some c_WORDS := rfl
  have body : dSs (runF cs fds (k + 1)) cs b_three_ladder [some (.int s), none] [] = .ok (.rt (.d (ladF (RR s) (LL s) (TT s) (II s)))) [] := by
    simp only [b_three_ladder, dSs, dS, dE, dEs, dT, kSeq, kAsg, kIteS, kPass, kCmp, cmpD, eq_i, blR_s, kRet, kBin, kTup, kCall, kBi, kG, kNil, kCons, kNm, kV, kC, ok_bind, binD, add_i, sub_i, ofO_s, toD_d, t1, al1, List.append_nil, c1, c2, c3, c4, c5, g1,
        List.getElem?_cons_succ, List.getElem?_cons_zero, List.set_cons_succ, List.set_cons_zero, List.length_cons, List.length_nil, Nat.reduceAdd, Nat.reduceLT, if_true, List.map_cons, List.map_nil, bi, ci, n4, bz, bt]
    rfl
  rw [run_rt (fd := f_three_ladder) (r := .d (ladF (RR s) (LL s) (TT s) (II s))) (h' := []) rfl ⟨rfl, by decide⟩ body]
  rfl
theorem form_run (a b c d : Int) (k : Nat) : runF cs fds (k + 2) 12 [ladF a b c d] [] = .ok (.d (.bl true)) [] := by kernel_rfl
def chB : Ss := (.cons (.asg (.tp (.cons (.nm 3) (.cons (.nm 4) .nil))) (.tup (.cons (.bin .Mult (.v 3) (.bin .Sub (.v 0) (.v 2))) (.cons (.bin .Mult (.v 4) (.bin .Add (.v 2) (.c (.int 1)))) .nil)))) .nil)
theorem ch_step (cl : Cl) (m i a b : Int) (x : Option D) (h1 : (m - i).natAbs < 18446744073709551616) (h2 : (i + 1).natAbs < 18446744073709551616) :
    (fun (d : D) (en : En) (h : Hh) => (dT cl cs (.nm 2) en (.d d) h).bind fun en h => dSs cl cs chB en h) (.int i) [some (.int m), some (.int 4), x, some (.int a), some (.int b)] [] = .ok (.nx [some (.int m), some (.int 4), some (.int i), some (.int (a * (m - i))), some (.int (b * (i + 1)))]) [] := by
  have t1 (x : Int) (h : Hh) := mul_l x (m - i) h h1
  have t2 (x : Int) (h : Hh) := mul_l x (i + 1) h h2
  have n2 : line 2 = true := by decide
  simp only [chB, dSs, dS, dE, dEs, dT, dTs, kSeq, kAsg, kPass, kBin, kTup, kNil, kCons, kNm, kTp, kTcons, kTnil, kV, kC, ok_bind, binD, add_i, sub_i, ofO_s, toD_d, viewT_t, n2, t1, t2,
        List.getElem?_cons_succ, List.getElem?_cons_zero, List.set_cons_succ, List.set_cons_zero, List.length_cons, List.length_nil, Nat.reduceAdd, Nat.reduceLT, if_true, List.map_cons, List.map_nil]
theorem choose_run {m : Int} (h0 : 0 ≤ m) (h1 : m < big + 100) (k : Nat) : runF cs fds (k + 1) 14 [.int m, .int 4] [] = .ok (.d (.int (FF m))) [] := by
  unfold big at h1
  have s0 := ch_step (runF cs fds k) m 0 1 1 none (by omega) (by omega)
  have s1 := ch_step (runF cs fds k) m 1 (1 * (m - 0)) (1 * (0 + 1)) (some (.int 0)) (by omega) (by omega)
  have s2 := ch_step (runF cs fds k) m 2 (1 * (m - 0) * (m - 1)) (1 * (0 + 1) * (1 + 1)) (some (.int 1)) (by omega) (by omega)
  have s3 := ch_step (runF cs fds k) m 3 (1 * (m - 0) * (m - 1) * (m - 2)) (1 * (0 + 1) * (1 + 1) * (2 + 1)) (some (.int 2)) (by omega) (by omega)
  have rg : (rg1R (.d (.int 4)) [] : Out Cur) = .ok (.st [.int 0, .int 1, .int 2, .int 3]) [] := rfl
  have fr : dS (runF cs fds k) cs (.for (.nm 2) (.rg1 (.v 1)) chB) [some (.int m), some (.int 4), none, some (.int 1), some (.int 1)] [] = .ok (.nx [some (.int m), some (.int 4), some (.int 3), some (.int (1 * (m - 0) * (m - 1) * (m - 2) * (m - 3))), some (.int (1 * (0 + 1) * (1 + 1) * (2 + 1) * (3 + 1)))]) [] := by
    simp only [dS, kFor, dI, kRg1, dE, kV, ok_bind, List.getElem?_cons_succ, List.getElem?_cons_zero, rg]
    rw [fuel8, for_cons s0, for_cons s1, for_cons s2, for_cons s3, for_nil]
  have t4 (i : Int) (h : Hh) := fdiv_p i 24 h (by decide) (by decide)
  have n2 : line 2 = true := by decide
  refine ret_int (fd := f_choose_any) rfl ⟨rfl, by decide⟩ rfl ?_
  have hb : b_choose_any = (.cons (.asg (.tp (.cons (.nm 3) (.cons (.nm 4) .nil))) (.tup (.cons (.c (.int 1)) (.cons (.c (.int 1)) .nil)))) (.cons (.for (.nm 2) (.rg1 (.v 1)) chB) (.cons (.ret (.bin .FloorDiv (.v 3) (.v 4))) .nil))) := rfl
  show dSs (runF cs fds k) cs b_choose_any [some (.int m), some (.int 4), none, none, none] [] = _
  rw [hb]
  have a0 : dS (runF cs fds k) cs (.asg (.tp (.cons (.nm 3) (.cons (.nm 4) .nil))) (.tup (.cons (.c (.int 1)) (.cons (.c (.int 1)) .nil)))) [some (.int m), some (.int 4), none, none, none] [] = .ok (.nx [some (.int m), some (.int 4), none, some (.int 1), some (.int 1)]) [] := rfl
  show kSeq _ (kSeq _ (kSeq _ kPass)) _ _ = _
  rw [seq_nx a0, seq_nx fr]
  have v3 : (1 * (0 + 1) * (1 + 1) * (2 + 1) * (3 + 1) : Int) = 24 := by decide
  have v4 : 1 * (m - 0) * (m - 1) * (m - 2) * (m - 3) = m * (m - 1) * (m - 2) * (m - 3) := by rw [Int.one_mul, Int.sub_zero]
  rw [v3, v4]
  simp only [dS, dE, kSeq, kRet, kBin, kV, ok_bind, binD, ofO_s, t4, List.getElem?_cons_succ, List.getElem?_cons_zero, FF]
end K99
end

section
set_option Elab.async false
set_option linter.all false
set_option maxRecDepth 100000
set_option maxHeartbeats 4000000
namespace MP
open PySem
theorem lc_next {step : D → Hh → Out (Option D)} {c c' : Cur} {d y : D} {acc : List D} {h h' : Hh} {n : Nat} (q : next c h = .it d c') (e : step d h = .ok (some y) h') : lcLoop step (n + 1) c acc h = lcLoop step n c' (y :: acc) h' := by
  simp only [lcLoop, q, e]
theorem lc_stop {step : D → Hh → Out (Option D)} {c : Cur} {acc : List D} {h : Hh} {n : Nat} (q : next c h = .stop) : lcLoop step (n + 1) c acc h = .ok acc.reverse h := by
  simp only [lcLoop, q]
theorem for_next {step : D → En → Hh → Out Fl} {c c' : Cur} {d : D} {en en' : En} {h h' : Hh} {n : Nat} (q : next c h = .it d c') (e : step d en h = .ok (.nx en') h') : forLoop step (n + 1) c en h = forLoop step n c' en' h' := by
  simp only [forLoop, q, e]
theorem for_out {step : D → En → Hh → Out Fl} {c c' : Cur} {d : D} {en : En} {h h' : Hh} {n : Nat} {r : R} (q : next c h = .it d c') (e : step d en h = .ok (.rt r) h') : forLoop step (n + 1) c en h = .ok (.rt r) h' := by
  simp only [forLoop, q, e]
theorem for_stop {step : D → En → Hh → Out Fl} {c : Cur} {en : En} {h : Hh} {n : Nat} (q : next c h = .stop) : forLoop step (n + 1) c en h = .ok (.nx en) h := by
  simp only [forLoop, q]
end MP
namespace K99
open MP PySem
def erB : Ss := (.cons (.ite (.cmp .NotEq (.v 3) (.v 5)) (.cons (.ret (.tup (.cons (.v 2) (.cons (.v 5) .nil)))) .nil) .nil) .nil)
def erT : T := (.tp (.cons (.tp (.cons (.nm 2) (.cons (.nm 3) .nil))) (.cons (.tp (.cons (.nm 4) (.cons (.nm 5) .nil))) .nil)))
theorem er_same (cl : Cl) (w : D) (a b : Int) (r v x2 x3 x4 x5 : Option D) (e : a = b) :
    (fun (d : D) (en : En) (h : Hh) => (dT cl cs erT en (.d d) h).bind fun en h => dSs cl cs erB en h) (.tup [.tup [w, .int a], .tup [w, .int b]]) [r, v, x2, x3, x4, x5] [] = .ok (.nx [r, v, some w, some (.int a), some w, some (.int b)]) [] := by
  have q : decide (a = b) = true := decide_eq_true e
  simp only [erB, erT, dSs, dS, dE, dEs, dT, dTs, kSeq, kAsg, kIteS, kPass, kCmp, cmpD, neD, eq_i, blR_s, truth_bl, kNm, kTp, kTcons, kTnil, kV, ok_bind, toD_d, viewT_t, q, Bool.not_true,
        List.getElem?_cons_succ, List.getElem?_cons_zero, List.set_cons_succ, List.set_cons_zero, List.length_cons, List.length_nil, Nat.reduceAdd, Nat.reduceLT, if_true]
theorem er_diff (cl : Cl) (w : D) (a b : Int) (r v x2 x3 x4 x5 : Option D) (e : a ≠ b) :
    (fun (d : D) (en : En) (h : Hh) => (dT cl cs erT en (.d d) h).bind fun en h => dSs cl cs erB en h) (.tup [.tup [w, .int a], .tup [w, .int b]]) [r, v, x2, x3, x4, x5] [] = .ok (.rt (.d (.tup [w, .int b]))) [] := by
  have q : decide (a = b) = false := decide_eq_false e
  have n2 : line 2 = true := by decide
  simp only [erB, erT, dSs, dS, dE, dEs, dT, dTs, kSeq, kAsg, kIteS, kPass, kRet, kTup, kNil, kCons, kCmp, cmpD, neD, eq_i, blR_s, truth_bl, kNm, kTp, kTcons, kTnil, kV, ok_bind, toD_d, viewT_t, q, n2, Bool.not_false, List.map_cons, List.map_nil,
        List.getElem?_cons_succ, List.getElem?_cons_zero, List.set_cons_succ, List.set_cons_zero, List.length_cons, List.length_nil, Nat.reduceAdd, Nat.reduceLT, if_true]
def erI : I := (.zp (.v 1) (.call 11 (.cons (.v 0) .nil) .nil [0]))
theorem er_iter {s : Int} (h0 : 0 ≤ s) (h1 : s < big) (k : Nat) (a b c d : Int) (x2 x3 x4 x5 : Option D) :
    dI (runF cs fds (k + 2)) cs erI [some (.int s), some (ladF a b c d), x2, x3, x4, x5] [] = .ok (.zp (.st [.tup [wRows, .int a], .tup [wLines, .int b], .tup [wEven, .int c], .tup [wBroken, .int d]]) (.st [.tup [wRows, .int (RR s)], .tup [wLines, .int (LL s)], .tup [wEven, .int (TT s)], .tup [wBroken, .int (II s)]])) [] := by
  have c1 := callD_cl [] rfl (ladder_run h0 h1 k)
  simp only [erI, dI, kZp, dE, dEs, kV, kCall, kNil, kCons, ok_bind, List.map_cons, List.map_nil, List.append_nil, List.getElem?_cons_succ, List.getElem?_cons_zero, al1, toD_d, c1]
  rfl
def erS : S := (.for erT erI erB)
theorem b_err : b_three_ladder_error = (.cons (.ite (.not (.call 12 (.cons (.v 1) .nil) .nil [0])) (.cons (.ret (.c (.str ⟨#[102, 111, 114, 109]⟩))) .nil) .nil) (.cons erS (.cons (.ret (.c .non)) .nil))) := rfl
theorem low_lad (a b c d : Int) : lowAll 0 [ladF a b c d] = true := rfl
theorem er_head (a b c d : Int) (k : Nat) (s : D) (x2 x3 x4 x5 : Option D) : dS (runF cs fds (k + 2)) cs (.ite (.not (.call 12 (.cons (.v 1) .nil) .nil [0])) (.cons (.ret (.c (.str ⟨#[102, 111, 114, 109]⟩))) .nil) .nil) [some s, some (ladF a b c d), x2, x3, x4, x5] [] = .ok (.nx [some s, some (ladF a b c d), x2, x3, x4, x5]) [] := by
  have c1 := callD_cl [] (low_lad a b c d) (form_run a b c d k)
  simp only [dSs, dS, dE, dEs, kIteS, kNot, kCall, kNil, kCons, kV, kPass, ok_bind, List.map_cons, List.map_nil, List.append_nil, List.getElem?_cons_succ, List.getElem?_cons_zero, al1, toD_d, c1, truth_bl, Bool.not_true]
theorem err_none {s : Int} (h0 : 0 ≤ s) (h1 : s < big) (k : Nat) : runF cs fds (k + 3) 13 [.int s, ladF (RR s) (LL s) (TT s) (II s)] [] = .ok (.d .non) [] := by
  have body : dSs (runF cs fds (k + 2)) cs b_three_ladder_error [some (.int s), some (ladF (RR s) (LL s) (TT s) (II s)), none, none, none, none] [] = .ok (.rt (.d .non)) [] := by
    rw [b_err]
    show kSeq _ (kSeq _ (kSeq _ kPass)) _ _ = _
    rw [seq_nx (er_head _ _ _ _ k _ _ _ _ _)]
    have lp : dS (runF cs fds (k + 2)) cs erS [some (.int s), some (ladF (RR s) (LL s) (TT s) (II s)), none, none, none, none] [] = .ok (.nx [some (.int s), some (ladF (RR s) (LL s) (TT s) (II s)), some wBroken, some (.int (II s)), some wBroken, some (.int (II s))]) [] := by
      show kFor (dT _ cs erT) (dI _ cs erI) (dSs _ cs erB) _ _ = _
      unfold kFor
      rw [er_iter h0 h1, ok_bind, fuel8]
      rw [for_next rfl (er_same _ wRows _ _ _ _ _ _ _ _ rfl), for_next rfl (er_same _ wLines _ _ _ _ _ _ _ _ rfl), for_next rfl (er_same _ wEven _ _ _ _ _ _ _ _ rfl), for_next rfl (er_same _ wBroken _ _ _ _ _ _ _ _ rfl), for_stop rfl]
    rw [seq_nx lp]
    rfl
  rw [run_rt (fd := f_three_ladder_error) (r := .d .non) (h' := []) rfl ⟨rfl, by decide⟩ body]
  rfl
theorem err_first {s : Int} (h0 : 0 ≤ s) (h1 : s < big) (k : Nat) (a b c d : Int) (ne : a ≠ RR s) : runF cs fds (k + 3) 13 [.int s, ladF a b c d] [] = .ok (.d (.tup [wRows, .int (RR s)])) [] := by
  have body : dSs (runF cs fds (k + 2)) cs b_three_ladder_error [some (.int s), some (ladF a b c d), none, none, none, none] [] = .ok (.rt (.d (.tup [wRows, .int (RR s)]))) [] := by
    rw [b_err]
    show kSeq _ (kSeq _ (kSeq _ kPass)) _ _ = _
    rw [seq_nx (er_head _ _ _ _ k _ _ _ _ _)]
    have lp : dS (runF cs fds (k + 2)) cs erS [some (.int s), some (ladF a b c d), none, none, none, none] [] = .ok (.rt (.d (.tup [wRows, .int (RR s)]))) [] := by
      show kFor (dT _ cs erT) (dI _ cs erI) (dSs _ cs erB) _ _ = _
      unfold kFor
      rw [er_iter h0 h1, ok_bind, fuel8]
      rw [for_out rfl (er_diff _ wRows _ _ _ _ _ _ _ _ ne)]
    rw [seq_rt lp]
  rw [run_rt (fd := f_three_ladder_error) (r := .d (.tup [wRows, .int (RR s)])) (h' := []) rfl ⟨rfl, by decide⟩ body]
  rfl
end K99
end

section
set_option Elab.async false
set_option linter.all false
set_option maxRecDepth 100000
set_option maxHeartbeats 4000000
namespace K99
open MP PySem
def snE : E := (.bin .Mult (.v 4) (.call 14 (.cons (.bin .Sub (.bin .Add (.v 1) (.v 2)) (.v 3)) (.cons (.v 2) .nil)) .nil [0, 1]))
def snT : T := (.tp (.cons (.nm 3) (.cons (.nm 4) .nil)))
theorem sn_step {s : Int} (h0 : 0 ≤ s) (h1 : s < big) (k : Nat) (i : Int) (i0 : 0 ≤ i) (i1 : i ≤ 2) :
    kTurn (dE (runF cs fds (k + 1)) cs snE) (dT (runF cs fds (k + 1)) cs snT) kYes [some (.int 3), some (.int s), some (.int 4), none, none] (.tup [.int i, .int 1]) [] = .ok (some (.int (1 * FF (s + 4 - i)))) [] := by
  have c1 := callD_cl [] rfl (choose_run (m := s + 4 - i) (by omega) (by unfold big at *; omega) k)
  have t1 (j : Int) (h : Hh) := mul_lo 1 j h (by decide)
  simp only [kTurn, kYes, snE, snT, dE, dEs, dT, dTs, kTp, kTcons, kTnil, kNm, kBin, kCall, kNil, kCons, kV, ok_bind, binD, add_i, sub_i, ofO_s, viewT_t, toD_d, List.map_cons, List.map_nil, List.cons_append, List.nil_append, List.append_nil, al2, c1, t1,
        List.getElem?_cons_succ, List.getElem?_cons_zero, List.set_cons_succ, List.set_cons_zero, List.length_cons, List.length_nil, Nat.reduceAdd, Nat.reduceLT, if_true]
theorem sheets_run {s : Int} (h0 : 0 ≤ s) (h1 : s < big) (k : Nat) : runF cs fds (k + 2) 15 [.int 3, .int s] [] = .ok (.d (.int (LL s))) [] := by
  refine ret_int (fd := f_sheets_number) rfl ⟨rfl, by decide⟩ rfl ?_
  show dSs (runF cs fds (k + 1)) cs b_sheets_number [some (.int 3), some (.int s), none, none, none] [] = _
  have hb : b_sheets_number = (.cons (.asg (.nm 2) (.bin .Mult (.bin .Sub (.v 0) (.c (.int 1))) (.bin .Sub (.v 0) (.c (.int 1))))) (.cons (.ret (.bi .sum (.cons (.lc snE snT (.en (.ix (.g 2) (.bin .Sub (.v 0) (.c (.int 1))))) .nil [3, 4]) .nil))) .nil)) := rfl
  rw [hb]
  have a0 : dS (runF cs fds (k + 1)) cs (.asg (.nm 2) (.bin .Mult (.bin .Sub (.v 0) (.c (.int 1))) (.bin .Sub (.v 0) (.c (.int 1))))) [some (.int 3), some (.int s), none, none, none] [] = .ok (.nx [some (.int 3), some (.int s), some (.int 4), none, none]) [] := rfl
  have it : dI (runF cs fds (k + 1)) cs (.en (.ix (.g 2) (.bin .Sub (.v 0) (.c (.int 1))))) [some (.int 3), some (.int s), some (.int 4), none, none] [] = .ok (.en 0 (.st [.int 1, .int 1, .int 1])) [] := rfl
  have lc : dE (runF cs fds (k + 1)) cs (.lc snE snT (.en (.ix (.g 2) (.bin .Sub (.v 0) (.c (.int 1))))) .nil [3, 4]) [some (.int 3), some (.int s), some (.int 4), none, none] [] = .ok (.fl [.int (1 * FF (s + 4 - 0)), .int (1 * FF (s + 4 - 1)), .int (1 * FF (s + 4 - 2))]) [] := by
    show kLc (dE _ cs snE) (dT _ cs snT) (dI _ cs _) kYes [3, 4] _ _ = _
    unfold kLc
    rw [it, ok_bind]
    have w : wipeE [some (.int 3), some (.int s), some (.int 4), none, none] [3, 4] = [some (.int 3), some (.int s), some (.int 4), none, none] := rfl
    rw [w, fuel8, lc_next rfl (sn_step h0 h1 k 0 (by decide) (by decide)), lc_next rfl (sn_step h0 h1 k 1 (by decide) (by decide)), lc_next rfl (sn_step h0 h1 k 2 (by decide) (by decide)), lc_stop rfl]
    rfl
  have sm : biD .sum [.fl [.int (1 * FF (s + 4 - 0)), .int (1 * FF (s + 4 - 1)), .int (1 * FF (s + 4 - 2))]] [] = some (.d (.int (LL s))) := by
    show some (R.d (.int ([1 * FF (s + 4 - 0), 1 * FF (s + 4 - 1), 1 * FF (s + 4 - 2)].sum))) = _
    have e1 : s + 4 - 0 = s + 4 := by omega
    have e2 : s + 4 - 1 = s + 3 := by omega
    have e3 : s + 4 - 2 = s + 2 := by omega
    rw [e1, e2, e3]
    have : [1 * FF (s + 4), 1 * FF (s + 3), 1 * FF (s + 2)].sum = LL s := by simp [LL]; omega
    rw [this]
  show kSeq _ (kSeq _ kPass) _ _ = _
  rw [seq_nx a0]
  have rt : dS (runF cs fds (k + 1)) cs (.ret (.bi .sum (.cons (.lc snE snT (.en (.ix (.g 2) (.bin .Sub (.v 0) (.c (.int 1))))) .nil [3, 4]) .nil))) [some (.int 3), some (.int s), some (.int 4), none, none] [] = .ok (.rt (.d (.int (LL s)))) [] := by
    show kRet (kBi .sum (kCons (dE _ cs _) kNil)) _ _ = _
    simp only [kRet, kBi, kCons, kNil, lc, ok_bind, sm, ofO_s]
  rw [seq_rt rt]
/-! ### plain facts -/
theorem oo_two {s : Int} : 2 * oo s = (s + 1) * (s + 2) := by
  have e : (s + 1) * (s + 2) = s * (s + 1) + 2 * (s + 1) := by grind
  have ev : s * (s + 1) % 2 = 0 := by
    rcases Int.emod_two_eq s with h | h
    · rw [Int.mul_emod, h]; simp
    · rw [Int.mul_emod, show (s + 1) % 2 = 0 by omega]; simp
  unfold oo
  generalize s * (s + 1) = p at e ev
  generalize (s + 1) * (s + 2) = q at e
  omega
theorem mul_lt2 {a b c d : Int} (h1 : a < c) (h2 : b < d) (h3 : 0 ≤ a) (h4 : 0 ≤ b) : a * b < c * d := by
  have x : a * b ≤ a * d := Int.mul_le_mul_of_nonneg_left (by omega) h3
  have y : a * d < c * d := Int.mul_lt_mul_of_pos_right h1 (by omega)
  omega
theorem oo_mono {r s : Int} (h0 : 0 ≤ r) (h : r < s) : oo r < oo s := by
  have a := oo_two (s := r)
  have b := oo_two (s := s)
  have c : (r + 1) * (r + 2) < (s + 1) * (s + 2) := mul_lt2 (by omega) (by omega) (by omega) (by omega)
  omega
theorem oo_pos {s : Int} (h0 : 0 ≤ s) : 1 ≤ oo s := by
  have a := oo_two (s := s)
  have b : 1 * 2 ≤ (s + 1) * (s + 2) := Int.mul_le_mul (by omega) (by omega) (by omega) (by omega)
  omega
theorem RR_mono {r s : Int} (h0 : 0 ≤ r) (h : r < s) : RR r < RR s := by
  have a := oo_mono h0 h
  have p := oo_pos h0
  have q : oo r * oo r < oo s * oo s := mul_lt2 a a (by omega) (by omega)
  have q0 : 0 ≤ oo r * oo r := Int.mul_nonneg (by omega) (by omega)
  exact mul_lt2 q a q0 (by omega)
theorem RR_ne {r s : Int} (h0 : 0 ≤ r) (h1 : 0 ≤ s) (h : r ≠ s) : RR s ≠ RR r := by
  rcases Int.lt_or_gt_of_ne h with g | g
  · have := RR_mono h0 g; omega
  · have := RR_mono h1 g; omega
theorem LL_low {s : Int} : 4 * (oo s * oo s) + 4 * oo s - 23 ≤ 8 * LL s ∧ 8 * LL s ≤ 4 * (oo s * oo s) + 4 * oo s := by
  have h := oo_two (s := s)
  have e : (s+4)*(s+4-1)*(s+4-2)*(s+4-3) + (s+3)*(s+3-1)*(s+3-2)*(s+3-3) + (s+2)*(s+2-1)*(s+2-2)*(s+2-3) = 3*(4*(oo s*oo s)+4*oo s) := by grind
  unfold LL FF
  omega
theorem LL_le {s : Int} (h0 : 0 ≤ s) : LL s ≤ RR s := by
  have p := oo_pos h0
  have a := (LL_low (s := s)).2
  have q : oo s * 1 ≤ oo s * oo s := Int.mul_le_mul_of_nonneg_left p (by omega)
  have q2 : oo s * oo s * 1 ≤ oo s * oo s * oo s := Int.mul_le_mul_of_nonneg_left p (by omega)
  unfold RR
  omega
theorem TT_le {s : Int} (h0 : 0 ≤ s) : TT s ≤ LL s := by
  by_cases g : s % 3 = 0
  · by_cases z : s = 0
    · subst z; decide
    · have a := (LL_low (s := s)).1
      have b := oo_two (s := s)
      obtain ⟨e, he⟩ : ∃ e, s / 3 = e := ⟨_, rfl⟩
      have hs : s = 3 * e := by omega
      have e1 : 1 ≤ e := by omega
      unfold TT
      rw [if_pos g, he]
      have u1 : 2 * oo s = 9 * (e * e) + 9 * e + 2 := by rw [b, hs]; grind
      have u2 : e * 1 ≤ e * e := Int.mul_le_mul_of_nonneg_left e1 (by omega)
      have o1 := oo_pos h0
      have u3 : oo s * 10 ≤ oo s * oo s := Int.mul_le_mul_of_nonneg_left (by omega) (by omega)
      have u4 : 2 * e * e = 2 * (e * e) := by grind
      rw [u4]
      omega
  · have a := (LL_low (s := s)).1
    have o1 := oo_pos h0
    have o2 : 3 ≤ oo s := by
      have b := oo_two (s := s)
      have c : 2 * 3 ≤ (s + 1) * (s + 2) := Int.mul_le_mul (by omega) (by omega) (by omega) (by omega)
      omega
    have u3 : oo s * 3 ≤ oo s * oo s := Int.mul_le_mul_of_nonneg_left o2 (by omega)
    unfold TT
    rw [if_neg g]
    omega
theorem II_le {s : Int} (h0 : 0 ≤ s) : II s ≤ TT s := by
  unfold II TT
  by_cases g : s % 3 = 0
  · rw [if_pos g, if_pos g]
    have : 0 ≤ 2 * (s / 3) * (s / 3) := Int.mul_nonneg (by omega) (by omega)
    omega
  · rw [if_neg g, if_neg g]; decide
end K99
end

section
set_option Elab.async false
set_option linter.all false
set_option maxRecDepth 100000
set_option maxHeartbeats 4000000
namespace MP
open PySem
abbrev ple (x y : D × PyData) : Bool := PySem.W.dataLe false (fun b : D × PyData => b.2) x y
theorem ple_int (a b : Int) : ple (.int a, .int a) (.int b, .int b) = decide (a ≤ b) := by
  show (!(decide (b < a) || (!decide (a < b) && false))) = _
  by_cases h : b < a
  · simp [h]
  · simp [h]; omega
def pi (a : Int) : D × PyData := (.int a, .int a)
theorem ins2 {a x : Int} (h : a ≤ x) : insBy ple (pi x) [pi a] = [pi a, pi x] := by
  show (if ple (.int x, .int x) (.int a, .int a) then [pi x, pi a] else [pi a, pi x]) = _
  rw [ple_int]
  by_cases g : x ≤ a
  · have : x = a := by omega
    subst this; simp
  · simp [g]
theorem ins3 {a b x : Int} (h : a ≤ b) (h2 : b ≤ x) : insBy ple (pi x) [pi a, pi b] = [pi a, pi b, pi x] := by
  show (if ple (.int x, .int x) (.int a, .int a) then [pi x, pi a, pi b] else pi a :: insBy ple (pi x) [pi b]) = _
  rw [ple_int, ins2 h2]
  by_cases g : x ≤ a
  · have : x = a := by omega
    have : b = a := by omega
    subst x; subst b; simp
  · simp [g]
theorem ins4 {a b c x : Int} (h : a ≤ b) (h2 : b ≤ c) (h3 : c ≤ x) : insBy ple (pi x) [pi a, pi b, pi c] = [pi a, pi b, pi c, pi x] := by
  show (if ple (.int x, .int x) (.int a, .int a) then [pi x, pi a, pi b, pi c] else pi a :: insBy ple (pi x) [pi b, pi c]) = _
  rw [ple_int, ins3 h2 h3]
  by_cases g : x ≤ a
  · have : x = a := by omega
    have : b = a := by omega
    have : c = a := by omega
    subst x; subst b; subst c; simp
  · simp [g]
theorem srt4 {a b c x : Int} (h : a ≤ b) (h2 : b ≤ c) (h3 : c ≤ x) (hh : Hh) : biD .srt [.d (.lst [.int x, .int c, .int b, .int a])] hh = some (.fl [.int a, .int b, .int c, .int x]) := by
  have e : isort ple [pi x, pi c, pi b, pi a] = [pi a, pi b, pi c, pi x] := by
    show insBy ple (pi x) (insBy ple (pi c) (insBy ple (pi b) [pi a])) = _
    rw [ins2 h, ins3 h h2, ins4 h h2 h3]
  show some (R.fl ((isort ple [pi x, pi c, pi b, pi a]).map (·.1))) = _
  rw [e]; rfl
theorem eq4 (a b c x : Int) (hh : Hh) : eqD (.d (.lst [.int x, .int c, .int b, .int a])) (.fl [.int x, .int c, .int b, .int a]) hh = some true := by
  show some (x == x && (c == c && (b == b && (a == a && true)))) = _
  simp
end MP
end

section
set_option Elab.async false
set_option linter.all false
set_option maxRecDepth 100000
set_option maxHeartbeats 4000000
namespace K99
open MP PySem
abbrev cl11 : Cl := runF cs fds 11
def tE (r s : Int) (lad : D) (a8 a9 : Option D) (x0 x3 x4 x6 x10 x11 x12 x13 x14 x15 x16 x17 x18 x19 x20 x21 x22 x23 : Option D) : En :=
  [x0, some (.ref 1), some (.int r), x3, x4, some lad, x6, some (.int s), a8, a9, x10, x11, x12, x13, x14, x15, x16, x17, x18, x19, x20, x21, x22, x23]
theorem nm_turn (x0 x1 x2 x3 x4 x5 x6 x7 x8 x9 x10 x11 x12 x13 x14 x15 x16 x17 x18 x19 x20 x23 : Option D) (w : D) (a : Int) (h : Hh) :
    kTurn (dE cl11 cs (.v 22)) (dT cl11 cs (.tp (.cons (.nm 21) (.cons (.nm 22) .nil)))) kYes [x0, x1, x2, x3, x4, x5, x6, x7, x8, x9, x10, x11, x12, x13, x14, x15, x16, x17, x18, x19, x20, none, none, x23] (.tup [w, .int a]) h = .ok (some (.int a)) h := by
  simp only [kTurn, kYes, dE, dT, dTs, kTp, kTcons, kTnil, kNm, kV, ok_bind, viewT_t, toD_d,
        List.getElem?_cons_succ, List.getElem?_cons_zero, List.set_cons_succ, List.set_cons_zero, List.length_cons, List.length_nil, Nat.reduceAdd, Nat.reduceLT, if_true]
theorem rp_self (p : PyData) (h : Hh) : eqD (.d (.rp p)) (.d (.rp p)) h = some true := by
  show some (same p p || (p.shown == p.shown)) = _
  simp
theorem tail_run (r s : Int) (r0 : 0 ≤ r) (r1 : r < big) (s0 : 0 ≤ s) (s1 : s < big) (p : PyData)
    (hp : ∀ h, biD .repr [.d (.tup [wRows, .int (RR r)])] h = some (.d (.rp p))) (h : Hh)
    (x0 x3 x4 x6 a8 a9 x10 x11 x12 x13 x14 x15 x16 x17 x18 x19 x20 x21 x22 x23 : Option D) :
    dSs cl11 cs (dropS b_law 11) (tE r s (ladF (RR r) (LL r) (TT r) (II r)) a8 a9 x0 x3 x4 x6 x10 x11 x12 x13 x14 x15 x16 x17 x18 x19 x20 x21 x22 x23) h = .ok (.rt (.d (.bl true))) h := by
  have c1 := callD_cl h rfl (ladder_run s0 s1 9)
  have c2 := callD_cl h rfl (rows_run s0 s1 10)
  have c3 := callD_cl h rfl (three_run s0 s1 10)
  have c4 := callD_cl h rfl (sheets_run s0 s1 9)
  have c5 := callD_cl h rfl (err_none s0 s1 8)
  have c6 := callD_cl h rfl (err_none r0 r1 8)
  have c7 (ne : RR s ≠ RR r) := callD_cl h rfl (err_first r0 r1 8 (RR s) (LL s) (TT s) (II s) ne)
  have i1 := II_le s0
  have i2 := TT_le s0
  have i3 := LL_le s0
  have so := srt4 i1 i2 i3 h
  have ne := eq4 (II s) (TT s) (LL s) (RR s) h
  have rv : revD (.fl [.int (II s), .int (TT s), .int (LL s), .int (RR s)]) h = some (.fl [.int (RR s), .int (LL s), .int (TT s), .int (II s)]) := rfl
  have z0 : ixD (.d (.lst [.int (RR s), .int (LL s), .int (TT s), .int (II s)])) (.d (.int 0)) h = some (.int (RR s)) := rfl
  have z1 : ixD (.d (.lst [.int (RR s), .int (LL s), .int (TT s), .int (II s)])) (.d (.int 1)) h = some (.int (LL s)) := rfl
  have z2 : ixD (.d (.lst [.int (RR s), .int (LL s), .int (TT s), .int (II s)])) (.d (.int 2)) h = some (.int (TT s)) := rfl
  have z3 : ixD (.d (ladF (RR r) (LL r) (TT r) (II r))) (.d (.int 0)) h = some (.tup [wRows, .int (RR r)]) := rfl
  have p6 : binD .Pow (.d (.int 10)) (.d (.int 6)) h = some (.d (.int 1000000)) := rfl
  have le6 : leD (.d (.int s)) (.d (.int 1000000)) h = some (decide (s ≤ 1000000)) := rfl
  have nn : nisD (.d .non) (.d .non) h = some false := rfl
  have yn : isD (.d .non) (.d .non) h = some true := rfl
  have ev : ∀ a : Int, eqD (.d (.int a)) (.d (.int a)) h = some true := fun a => by rw [eq_i]; simp
  have lc : ∀ b9, dE cl11 cs (.lc (.v 22) (.tp (.cons (.nm 21) (.cons (.nm 22) .nil))) (.e (.v 8)) .nil [21, 22]) (tE r s (ladF (RR r) (LL r) (TT r) (II r)) (some (ladF (RR s) (LL s) (TT s) (II s))) b9 x0 x3 x4 x6 x10 x11 x12 x13 x14 x15 x16 x17 x18 x19 x20 x21 x22 x23) h = .ok (.fl [.int (RR s), .int (LL s), .int (TT s), .int (II s)]) h := by
    intro b9
    show kLc (dE _ cs (.v 22)) (dT _ cs _) (dI _ cs _) kYes [21, 22] _ _ = _
    unfold kLc
    have it : dI cl11 cs (.e (.v 8)) (tE r s (ladF (RR r) (LL r) (TT r) (II r)) (some (ladF (RR s) (LL s) (TT s) (II s))) b9 x0 x3 x4 x6 x10 x11 x12 x13 x14 x15 x16 x17 x18 x19 x20 x21 x22 x23) h = .ok (.st [.tup [wRows, .int (RR s)], .tup [wLines, .int (LL s)], .tup [wEven, .int (TT s)], .tup [wBroken, .int (II s)]]) h := rfl
    have w : wipeE (tE r s (ladF (RR r) (LL r) (TT r) (II r)) (some (ladF (RR s) (LL s) (TT s) (II s))) b9 x0 x3 x4 x6 x10 x11 x12 x13 x14 x15 x16 x17 x18 x19 x20 x21 x22 x23) [21, 22] = tE r s (ladF (RR r) (LL r) (TT r) (II r)) (some (ladF (RR s) (LL s) (TT s) (II s))) b9 x0 x3 x4 x6 x10 x11 x12 x13 x14 x15 x16 x17 x18 x19 x20 none none x23 := rfl
    rw [it, ok_bind, w, fuel8]
    unfold tE
    rw [lc_cons (nm_turn ..), lc_cons (nm_turn ..), lc_cons (nm_turn ..), lc_cons (nm_turn ..), lc_nil]
    rfl
  have l11 : dropS b_law 11 = .cons (nthS b_law 11) (.cons (nthS b_law 12) (.cons (nthS b_law 13) (.cons (nthS b_law 14) (.cons (nthS b_law 15) (.cons (nthS b_law 16) (.cons (nthS b_law 17) .nil)))))) := rfl
  rw [l11]
  show kSeq _ (kSeq _ (kSeq _ (kSeq _ (kSeq _ (kSeq _ (kSeq _ kPass)))))) _ _ = _
  have a11 : dS cl11 cs (nthS b_law 11) (tE r s (ladF (RR r) (LL r) (TT r) (II r)) a8 a9 x0 x3 x4 x6 x10 x11 x12 x13 x14 x15 x16 x17 x18 x19 x20 x21 x22 x23) h = .ok (.nx (tE r s (ladF (RR r) (LL r) (TT r) (II r)) (some (ladF (RR s) (LL s) (TT s) (II s))) a9 x0 x3 x4 x6 x10 x11 x12 x13 x14 x15 x16 x17 x18 x19 x20 x21 x22 x23)) h := by
    show kAsg (kNm 8) (kCall cl11 11 (kCons (kV 7) kNil) kNil [0]) _ _ = _
    simp only [tE, kAsg, kNm, kCall, kCons, kNil, kV, ok_bind, List.map_cons, List.map_nil, List.append_nil, al1, toD_d, c1,
        List.getElem?_cons_succ, List.getElem?_cons_zero, List.set_cons_succ, List.set_cons_zero, List.length_cons, List.length_nil, Nat.reduceAdd, Nat.reduceLT, if_true]
  have a12 : dS cl11 cs (nthS b_law 12) (tE r s (ladF (RR r) (LL r) (TT r) (II r)) (some (ladF (RR s) (LL s) (TT s) (II s))) a9 x0 x3 x4 x6 x10 x11 x12 x13 x14 x15 x16 x17 x18 x19 x20 x21 x22 x23) h = .ok (.nx (tE r s (ladF (RR r) (LL r) (TT r) (II r)) (some (ladF (RR s) (LL s) (TT s) (II s))) (some (.lst [.int (RR s), .int (LL s), .int (TT s), .int (II s)])) x0 x3 x4 x6 x10 x11 x12 x13 x14 x15 x16 x17 x18 x19 x20 x21 x22 x23)) h := by
    refine asg_ok (e := dE cl11 cs _) (t := kNm 9) (lc a9) ?_
    rfl
  rw [seq_nx a11, seq_nx a12]
  have a13 : dS cl11 cs (nthS b_law 13) (tE r s (ladF (RR r) (LL r) (TT r) (II r)) (some (ladF (RR s) (LL s) (TT s) (II s))) (some (.lst [.int (RR s), .int (LL s), .int (TT s), .int (II s)])) x0 x3 x4 x6 x10 x11 x12 x13 x14 x15 x16 x17 x18 x19 x20 x21 x22 x23) h = .ok (.nx (tE r s (ladF (RR r) (LL r) (TT r) (II r)) (some (ladF (RR s) (LL s) (TT s) (II s))) (some (.lst [.int (RR s), .int (LL s), .int (TT s), .int (II s)])) x0 x3 x4 x6 x10 x11 x12 x13 x14 x15 x16 x17 x18 x19 x20 x21 x22 x23)) h := by
    have e : nthS b_law 13 = (.ite (.or (.cmp .NotEq (.v 9) (.rev (.bi .srt (.cons (.v 9) .nil)))) (.or (.cmp .NotEq (.ix (.v 9) (.c (.int 0))) (.call 9 .nil (.cons (.v 7) .nil) [0])) (.cmp .NotEq (.ix (.v 9) (.c (.int 2))) (.call 5 .nil (.cons (.v 7) .nil) [0])))) (.cons (.ret (.c (.bl false))) .nil) .nil) := rfl
    rw [e]
    simp only [tE, dS, dSs, dE, dEs, kIteS, kPass, kOr, kCmp, cmpD, kRev, kBi, kIx, kCall, kCons, kNil, kV, kC, ok_bind, List.map_cons, List.map_nil, List.nil_append, List.append_nil, al1, toD_d, c2, c3, so, rv, ne, z0, z2, neD, ev, ofO_s, blR_s, dOut_s, truth_bl, Bool.not_true,
        List.getElem?_cons_succ, List.getElem?_cons_zero]
  rw [seq_nx a13]
  have a14 : dS cl11 cs (nthS b_law 14) (tE r s (ladF (RR r) (LL r) (TT r) (II r)) (some (ladF (RR s) (LL s) (TT s) (II s))) (some (.lst [.int (RR s), .int (LL s), .int (TT s), .int (II s)])) x0 x3 x4 x6 x10 x11 x12 x13 x14 x15 x16 x17 x18 x19 x20 x21 x22 x23) h = .ok (.nx (tE r s (ladF (RR r) (LL r) (TT r) (II r)) (some (ladF (RR s) (LL s) (TT s) (II s))) (some (.lst [.int (RR s), .int (LL s), .int (TT s), .int (II s)])) x0 x3 x4 x6 x10 x11 x12 x13 x14 x15 x16 x17 x18 x19 x20 x21 x22 x23)) h := by
    have e : nthS b_law 14 = (.ite (.and (.cmp .LtE (.v 7) (.bin .Pow (.c (.int 10)) (.c (.int 6)))) (.cmp .NotEq (.ix (.v 9) (.c (.int 1))) (.call 15 (.cons (.c (.int 3)) (.cons (.v 7) .nil)) .nil [0, 1]))) (.cons (.ret (.c (.bl false))) .nil) .nil) := rfl
    rw [e]
    cases q : decide (s ≤ 1000000) <;>
    simp only [tE, dS, dSs, dE, dEs, kIteS, kPass, kAnd, kBin, kCmp, cmpD, kIx, kCall, kCons, kNil, kV, kC, ok_bind, List.map_cons, List.map_nil, List.cons_append, List.nil_append, List.append_nil, al2, toD_d, c4, p6, le6, q, z1, neD, ev, ofO_s, blR_s, dOut_s, truth_bl, Bool.not_true,
        List.getElem?_cons_succ, List.getElem?_cons_zero]
  rw [seq_nx a14]
  have a15 : dS cl11 cs (nthS b_law 15) (tE r s (ladF (RR r) (LL r) (TT r) (II r)) (some (ladF (RR s) (LL s) (TT s) (II s))) (some (.lst [.int (RR s), .int (LL s), .int (TT s), .int (II s)])) x0 x3 x4 x6 x10 x11 x12 x13 x14 x15 x16 x17 x18 x19 x20 x21 x22 x23) h = .ok (.nx (tE r s (ladF (RR r) (LL r) (TT r) (II r)) (some (ladF (RR s) (LL s) (TT s) (II s))) (some (.lst [.int (RR s), .int (LL s), .int (TT s), .int (II s)])) x0 x3 x4 x6 x10 x11 x12 x13 x14 x15 x16 x17 x18 x19 x20 x21 x22 x23)) h := by
    have e : nthS b_law 15 = (.ite (.or (.cmp .IsNot (.call 13 (.cons (.v 7) (.cons (.v 8) .nil)) .nil [0, 1]) (.c .non)) (.cmp .IsNot (.call 13 .nil (.cons (.v 8) (.cons (.v 7) .nil)) [1, 0]) (.c .non))) (.cons (.ret (.c (.bl false))) .nil) .nil) := rfl
    rw [e]
    simp only [tE, dS, dSs, dE, dEs, kIteS, kPass, kOr, kCmp, cmpD, kCall, kCons, kNil, kV, kC, ok_bind, List.map_cons, List.map_nil, List.cons_append, List.nil_append, List.append_nil, al2, toD_d, c5, nn, ofO_s, blR_s, dOut_s, truth_bl,
        List.getElem?_cons_succ, List.getElem?_cons_zero]
  rw [seq_nx a15]
  have a16 : dS cl11 cs (nthS b_law 16) (tE r s (ladF (RR r) (LL r) (TT r) (II r)) (some (ladF (RR s) (LL s) (TT s) (II s))) (some (.lst [.int (RR s), .int (LL s), .int (TT s), .int (II s)])) x0 x3 x4 x6 x10 x11 x12 x13 x14 x15 x16 x17 x18 x19 x20 x21 x22 x23) h = .ok (.nx (tE r s (ladF (RR r) (LL r) (TT r) (II r)) (some (ladF (RR s) (LL s) (TT s) (II s))) (some (.lst [.int (RR s), .int (LL s), .int (TT s), .int (II s)])) x0 x3 x4 x6 x10 x11 x12 x13 x14 x15 x16 x17 x18 x19 x20 x21 x22 x23)) h := by
    have e : nthS b_law 16 = (.ite (.and (.cmp .NotEq (.v 2) (.v 7)) (.cmp .NotEq (.bi .repr (.cons (.call 13 (.cons (.v 2) (.cons (.v 8) .nil)) .nil [0, 1]) .nil)) (.bi .repr (.cons (.ix (.v 5) (.c (.int 0))) .nil)))) (.cons (.ret (.c (.bl false))) .nil) .nil) := rfl
    rw [e]
    by_cases q : r = s
    · have q' : decide (r = s) = true := decide_eq_true q
      simp only [tE, dS, dSs, dE, dEs, kIteS, kPass, kAnd, kCmp, cmpD, kV, kC, ok_bind, toD_d, neD, eq_i, q', ofO_s, blR_s, dOut_s, truth_bl, Bool.not_true,
        List.getElem?_cons_succ, List.getElem?_cons_zero]
    · have q' : decide (r = s) = false := decide_eq_false q
      have c8 := c7 (RR_ne r0 s0 q)
      have rs := rp_self p h
      simp only [tE, dS, dSs, dE, dEs, kIteS, kPass, kAnd, kCmp, cmpD, kBi, kIx, kCall, kCons, kNil, kV, kC, ok_bind, List.map_cons, List.map_nil, List.cons_append, List.nil_append, List.append_nil, al2, toD_d, c8, z3, hp, rs, neD, eq_i, q', ofO_s, blR_s, dOut_s, truth_bl, Bool.not_true, Bool.not_false,
        List.getElem?_cons_succ, List.getElem?_cons_zero]
  rw [seq_nx a16]
  have a17 : dS cl11 cs (nthS b_law 17) (tE r s (ladF (RR r) (LL r) (TT r) (II r)) (some (ladF (RR s) (LL s) (TT s) (II s))) (some (.lst [.int (RR s), .int (LL s), .int (TT s), .int (II s)])) x0 x3 x4 x6 x10 x11 x12 x13 x14 x15 x16 x17 x18 x19 x20 x21 x22 x23) h = .ok (.rt (.d (.bl true))) h := by
    have e : nthS b_law 17 = (.ret (.cmp .Is (.call 13 (.cons (.v 2) (.cons (.v 5) .nil)) .nil [0, 1]) (.c .non))) := rfl
    rw [e]
    simp only [tE, dS, dSs, dE, dEs, kRet, kCmp, cmpD, kCall, kCons, kNil, kV, kC, ok_bind, List.map_cons, List.map_nil, List.cons_append, List.nil_append, List.append_nil, al2, toD_d, c6, yn, ofO_s, blR_s, dOut_s, truth_bl,
        List.getElem?_cons_succ, List.getElem?_cons_zero]
  rw [seq_rt a17]
end K99
end

section
set_option Elab.async false
set_option linter.all false
set_option maxRecDepth 100000
set_option maxHeartbeats 4000000
namespace MP
open PySem
theorem lc_inv {step : D → Hh → Out (Option D)} (I : Hh → Prop) (P : D → Prop) (hs : ∀ d h, I h → ∃ y h', step d h = .ok (some y) h' ∧ P y ∧ I h') :
    ∀ (ds : List D) (n : Nat) (acc : List D) (h : Hh), ds.length < n → I h → (∀ a, a ∈ acc → P a) → ∃ ys h', lcLoop step n (.st ds) acc h = .ok ys h' ∧ (∀ y, y ∈ ys → P y) ∧ ys.length ≤ acc.length + ds.length ∧ I h'
  | [], 0, acc, h, l, _, _ => absurd l (by simp)
  | [], n + 1, acc, h, _, i, p => ⟨acc.reverse, h, rfl, fun y hy => p y (List.mem_reverse.mp hy), by simp, i⟩
  | d :: ds, 0, acc, h, l, _, _ => absurd l (by simp)
  | d :: ds, n + 1, acc, h, l, i, p => by
    obtain ⟨y, h1, e1, p1, i1⟩ := hs d h i
    obtain ⟨ys, h2, e2, p2, l2, i2⟩ := lc_inv I P hs ds n (y :: acc) h1 (by simp only [List.length_cons] at l; omega) i1 (fun a ha => by
      rcases List.mem_cons.mp ha with q | q
      · exact q ▸ p1
      · exact p a q)
    refine ⟨ys, h2, ?_, p2, by simp only [List.length_cons] at l2 ⊢; omega, i2⟩
    rw [lc_cons e1]; exact e2
def isSq : D → Bool
  | .tup [.tup [.int _, .int _, .int _], .tup [.int _, .int _, .int _], .tup [.int _, .int _, .int _]] => true
  | _ => false
theorem fin_sq {d : D} (e : isSq d = true) (n : Nat) (h : Hh) : fin n true (.d d) h = .ok (.d d) (h.take n) := by
  unfold isSq at e
  split at e
  · rfl
  · cases e
end MP
namespace K99
open MP PySem
theorem draw10 (x0 x2 x3 x4 x5 x6 x7 x8 x9 x10 x11 x12 x13 x14 x15 x16 x17 x18 x19 x20 x21 x22 x23 : Option D) (cells : List Int) (m c : Int) (rest : Hh) (hc : cells.length ≤ 63) :
    ∃ s cells' c', dS cl11 cs (nthS b_law 10) [x0, some (.ref 1), x2, x3, x4, x5, x6, x7, x8, x9, x10, x11, x12, x13, x14, x15, x16, x17, x18, x19, x20, x21, x22, x23] (pot cells m c rest) = .ok (.nx [x0, some (.ref 1), x2, x3, x4, x5, x6, some (.int s), x8, x9, x10, x11, x12, x13, x14, x15, x16, x17, x18, x19, x20, x21, x22, x23]) (pot cells' m c' rest) ∧ 0 ≤ s ∧ s < big ∧ cells'.length ≤ 63 := by
  obtain ⟨z1, cells1, c1, e1, m1, l1⟩ := one_call (cs := cs) (fds := fds) (k := 9) (i := 23) (fd := f__law_one) (fo := f__law_of) rfl rfl rfl rfl rfl rfl rfl rfl rfl rfl cells m c rest (.lst [.int 40, .int 1000000]) [.int 40, .int 1000000] hc (fun _ _ _ => rfl) (by decide) (by decide) (by
    intro d hd n h
    simp only [List.mem_cons, List.not_mem_nil, or_false] at hd
    rcases hd with rfl | rfl <;> rfl)
  have hz : ∃ y : Int, z1 = .int y ∧ 1 ≤ y ∧ y ≤ 1000000 := by
    simp only [List.mem_cons, List.not_mem_nil, or_false] at m1
    rcases m1 with rfl | rfl
    · exact ⟨40, rfl, by decide, by decide⟩
    · exact ⟨1000000, rfl, by decide, by decide⟩
  obtain ⟨y, rfl, y0, y1⟩ := hz
  obtain ⟨a, cells2, c2, e2, a0, a1, l2⟩ := of_call (cs := cs) (fds := fds) (k := 10) (i := 22) (fd := f__law_of) rfl rfl rfl rfl rfl cells1 m c1 rest y y0 (by omega) l1
  obtain ⟨z3, cells3, c3, e3, m3, l3⟩ := one_call (cs := cs) (fds := fds) (k := 9) (i := 23) (fd := f__law_one) (fo := f__law_of) rfl rfl rfl rfl rfl rfl rfl rfl rfl rfl cells2 m c2 rest (.lst [.int 1, .int 1, .int 1000000000000]) [.int 1, .int 1, .int 1000000000000] l2 (fun _ _ _ => rfl) (by decide) (by decide) (by
    intro d hd n h
    simp only [List.mem_cons, List.not_mem_nil, or_false] at hd
    rcases hd with rfl | rfl | rfl <;> rfl)
  have hw : ∃ y : Int, z3 = .int y ∧ 1 ≤ y ∧ y ≤ 1000000000000 := by
    simp only [List.mem_cons, List.not_mem_nil, or_false] at m3
    rcases m3 with rfl | rfl | rfl
    · exact ⟨1, rfl, by decide, by decide⟩
    · exact ⟨1, rfl, by decide, by decide⟩
    · exact ⟨1000000000000, rfl, by decide, by decide⟩
  obtain ⟨w, rfl, w0, w1⟩ := hw
  have s1 : a * w ≤ 999999 * 1000000000000 := Int.mul_le_mul (by omega) w1 (by omega) (by omega)
  have s0 : 0 ≤ a * w := Int.mul_nonneg a0 (by omega)
  refine ⟨a * w, cells3, c3, ?_, s0, by unfold big; omega, l3⟩
  have t1 (h : Hh) := mul_l a w h (by omega)
  have L1 : ∀ en h, dE cl11 cs (.lst (.cons (.c (.int 40)) (.cons (.bin .Pow (.c (.int 10)) (.c (.int 6))) .nil))) en h = .ok (.fl [.int 40, .int 1000000]) h := fun _ _ => rfl
  have L2 : ∀ en h, dE cl11 cs (.lst (.cons (.c (.int 1)) (.cons (.c (.int 1)) (.cons (.bin .Pow (.c (.int 10)) (.c (.int 12))) .nil)))) en h = .ok (.fl [.int 1, .int 1, .int 1000000000000]) h := fun _ _ => rfl
  show kAsg (kNm 7) (kBin .Mult (kCall cl11 22 (kCons (kV 1) (kCons (kCall cl11 23 (kCons (kV 1) (kCons (dE cl11 cs (.lst (.cons (.c (.int 40)) (.cons (.bin .Pow (.c (.int 10)) (.c (.int 6))) .nil)))) kNil)) kNil [0, 1]) kNil)) kNil [0, 1]) (kCall cl11 23 (kCons (kV 1) (kCons (dE cl11 cs (.lst (.cons (.c (.int 1)) (.cons (.c (.int 1)) (.cons (.bin .Pow (.c (.int 10)) (.c (.int 12))) .nil))))) kNil)) kNil [0, 1])) _ _ = _
  simp only [kAsg, kNm, kBin, binD, kCall, kCons, kNil, kV, ok_bind, L1, L2, List.map_cons, List.map_nil, List.cons_append, List.nil_append, List.append_nil, al2, toD_d, toD_fl, e1, e2, e3, t1, ofO_s,
        List.getElem?_cons_succ, List.getElem?_cons_zero, List.set_cons_succ, List.set_cons_zero, List.length_cons, List.length_nil, Nat.reduceAdd, Nat.reduceLT, if_true]
theorem loop9 (sh ev : List D) (tab : List (D × D × Bool × Bool × Bool)) (enl : Option D → Option D → Option D → Option D → Option D → En) (m : Int)
    (ht : tab.map (·.1) = sh) (hq : sh.all isSq = true) (hl1 : 1 ≤ sh.length) (hl2 : sh.length < 18446744073709551616)
    (he : ∀ a b c d e x, ((wipeE (enl a b c d e) [19]).set 19 (some x))[1]? = some (some (.ref 1)) ∧ ((wipeE (enl a b c d e) [19]).set 19 (some x))[10]? = some (some (.ref 2)) ∧ 19 < (wipeE (enl a b c d e) [19]).length)
    (hb : ∀ a6 a14 a15 a16 a17 cells m c, tab.map (fun t => stepL t.1 (enl a6 a14 a15 a16 a17) (pot cells m c [.lst sh, .lst ev])) = tab.map (fun t => .ok (.nx (enl (some t.1) (some (.bl t.2.2.1)) (some (due t.2.2.1 t.2.2.2.1)) (some t.2.1) (some (.bl t.2.2.2.2)))) (pot cells m c [.lst sh, .lst ev])))
    (a b c' d e : Option D) (cells : List Int) (c : Int) (hc : cells.length ≤ 63) :
    ∃ a6 a14 a15 a16 a17 cells' c2, dS cl11 cs (nthS b_law 9) (enl a b c' d e) (pot cells m c [.lst sh, .lst ev]) = .ok (.nx (enl a6 a14 a15 a16 a17)) (pot cells' m c2 [.lst sh, .lst ev]) ∧ cells'.length ≤ 63 := by
  let I : Hh → Prop := fun h => ∃ cells c, h = pot cells m c [.lst sh, .lst ev] ∧ cells.length ≤ 63
  have turn : ∀ d' h, I h → ∃ y h', kTurn (kCall cl11 23 (kCons (kV 1) (kCons (kV 10) kNil)) kNil [0, 1]) (kNm 19) kYes (wipeE (enl a b c' d e) [19]) d' h = .ok (some y) h' ∧ y ∈ sh ∧ I h' := by
    rintro d' h ⟨cells, c, rfl, lc⟩
    obtain ⟨z, cells1, c1, e1, m1, l1⟩ := one_call (cs := cs) (fds := fds) (k := 9) (i := 23) (fd := f__law_one) (fo := f__law_of) rfl rfl rfl rfl rfl rfl rfl rfl rfl rfl cells m c [.lst sh, .lst ev] (.ref 2) sh lc (fun _ _ _ => rfl) hl1 hl2 (fun d hd n h => fin_sq (List.all_eq_true.mp hq d hd) n h)
    obtain ⟨q1, q2, q3⟩ := he a b c' d e d'
    refine ⟨z, pot cells1 m c1 [.lst sh, .lst ev], ?_, m1, cells1, c1, rfl, l1⟩
    simp only [kTurn, kYes, kNm, kCall, kCons, kNil, kV, ok_bind, q1, q2, q3, if_true, List.map_cons, List.map_nil, List.cons_append, List.nil_append, List.append_nil, al2, toD_d, e1, List.getElem?_cons_succ, List.getElem?_cons_zero]
  obtain ⟨ys, h1, e1, p1, l1, cells1, c1, rfl, lc1⟩ := lc_inv I (fun y => y ∈ sh) turn (rng 0 6) FUEL [] (pot cells m c [.lst sh, .lst ev]) (by decide) ⟨cells, c, rfl, hc⟩ (by simp)
  have lf : ys.length < FUEL := Nat.lt_of_le_of_lt l1 (by decide)
  obtain ⟨en2, h2, e2, a6, a14, a15, a16, a17, cells2, c2, rfl, rfl, lc2⟩ := for_st (step := stepL) (fun en h => ∃ a6 a14 a15 a16 a17 cells c, en = enl a6 a14 a15 a16 a17 ∧ h = pot cells m c [.lst sh, .lst ev] ∧ cells.length ≤ 63) ys FUEL (enl a b c' d e) (pot cells1 m c1 [.lst sh, .lst ev]) (by
    rintro y hy en h ⟨a6, a14, a15, a16, a17, cells, c, rfl, rfl, lc⟩
    have hs : y ∈ tab.map (·.1) := ht ▸ p1 y hy
    obtain ⟨t, mt, rfl⟩ := List.mem_map.mp hs
    have := List.map_inj_left.mp (hb a6 a14 a15 a16 a17 cells m c) t mt
    exact ⟨_, _, this, _, _, _, _, _, cells, c, rfl, rfl, lc⟩) lf ⟨a, b, c', d, e, cells1, c1, rfl, rfl, lc1⟩
  refine ⟨a6, a14, a15, a16, a17, cells2, c2, ?_, lc2⟩
  have it : dI cl11 cs (.e (.lc (.call 23 (.cons (.v 1) (.cons (.v 10) .nil)) .nil [0, 1]) (.nm 19) (.rg1 (.c (.int 6))) .nil [19])) (enl a b c' d e) (pot cells m c [.lst sh, .lst ev]) = .ok (.st ys) (pot cells1 m c1 [.lst sh, .lst ev]) := by
    show kIe (kLc (kCall cl11 23 (kCons (kV 1) (kCons (kV 10) kNil)) kNil [0, 1]) (kNm 19) (kRg1 (kC (.int 6))) kYes [19]) _ _ = _
    have rg : ∀ en h, kRg1 (kC (.int 6)) en h = .ok (.st (rng 0 6)) h := fun _ _ => rfl
    unfold kIe kLc
    rw [rg, ok_bind, e1]
    rfl
  have e9 : nthS b_law 9 = .for (.nm 6) (.e (.lc (.call 23 (.cons (.v 1) (.cons (.v 10) .nil)) .nil [0, 1]) (.nm 19) (.rg1 (.c (.int 6))) .nil [19])) bodyS := rfl
  rw [e9]
  show kFor (kNm 6) (dI cl11 cs _) (dSs cl11 cs bodyS) _ _ = _
  unfold kFor
  rw [it, ok_bind]
  exact e2
end K99
end

section
set_option Elab.async false
set_option linter.all false
set_option maxRecDepth 100000
set_option maxHeartbeats 4000000
namespace K99
open MP PySem
def enL (r : Int) (lad : D) (x0 x3 x4 x7 x8 x9 x12 x13 x18 x19 x20 x21 x22 x23 a6 a14 a15 a16 a17 : Option D) : En :=
  [x0, some (.ref 1), some (.int r), x3, x4, some lad, a6, x7, x8, x9, some (.ref 2), some (.ref 3), x12, x13, a14, a15, a16, a17, x18, x19, x20, x21, x22, x23]
def rp (r : Int) : PyData := .tuple [.str ⟨#[114, 111, 119, 115]⟩, .int (RR r)]
theorem rest9 (r : Int) (r0 : 0 ≤ r) (r1 : r < big) (lad : D) (hl : lad = ladF (RR r) (LL r) (TT r) (II r)) (hp : ∀ h, biD .repr [.d (.tup [wRows, .int (RR r)])] h = some (.d (.rp (rp r))))
    (x0 x3 x4 x7 x8 x9 x12 x13 x18 x19 x20 x21 x22 x23 : Option D)
    (sh ev : List D) (tab : List (D × D × Bool × Bool × Bool)) (m : Int)
    (ht : tab.map (·.1) = sh) (hq : sh.all isSq = true) (hl1 : 1 ≤ sh.length) (hl2 : sh.length < 18446744073709551616)
    (hb : ∀ a6 a14 a15 a16 a17 cells m c, tab.map (fun t => stepL t.1 (enL r lad x0 x3 x4 x7 x8 x9 x12 x13 x18 x19 x20 x21 x22 x23 a6 a14 a15 a16 a17) (pot cells m c [.lst sh, .lst ev])) = tab.map (fun t => .ok (.nx (enL r lad x0 x3 x4 x7 x8 x9 x12 x13 x18 x19 x20 x21 x22 x23 (some t.1) (some (.bl t.2.2.1)) (some (due t.2.2.1 t.2.2.2.1)) (some t.2.1) (some (.bl t.2.2.2.2)))) (pot cells m c [.lst sh, .lst ev])))
    (cells : List Int) (c : Int) (hc : cells.length ≤ 63) (a b c' d e : Option D) :
    ∃ h', dSs cl11 cs (dropS b_law 9) (enL r lad x0 x3 x4 x7 x8 x9 x12 x13 x18 x19 x20 x21 x22 x23 a b c' d e) (pot cells m c [.lst sh, .lst ev]) = .ok (.rt (.d (.bl true))) h' := by
  obtain ⟨a6, a14, a15, a16, a17, cells1, c1, e9, l1⟩ := loop9 sh ev tab (enL r lad x0 x3 x4 x7 x8 x9 x12 x13 x18 x19 x20 x21 x22 x23) m ht hq hl1 hl2 (fun _ _ _ _ _ _ => ⟨rfl, rfl, show (19 : Nat) < 24 from by decide⟩) hb a b c' d e cells c hc
  obtain ⟨s, cells2, c2, e10, s0, s1, l2⟩ := draw10 x0 (some (.int r)) x3 x4 (some lad) a6 x7 x8 x9 (some (.ref 2)) (some (.ref 3)) x12 x13 a14 a15 a16 a17 x18 x19 x20 x21 x22 x23 cells1 m c1 [.lst sh, .lst ev] l1
  have t := tail_run r s r0 r1 s0 s1 (rp r) hp (pot cells2 m c2 [.lst sh, .lst ev]) x0 x3 x4 a6 x8 x9 (some (.ref 2)) (some (.ref 3)) x12 x13 a14 a15 a16 a17 x18 x19 x20 x21 x22 x23
  refine ⟨pot cells2 m c2 [.lst sh, .lst ev], ?_⟩
  have l9 : dropS b_law 9 = .cons (nthS b_law 9) (.cons (nthS b_law 10) (dropS b_law 11)) := rfl
  rw [l9]
  show kSeq _ (kSeq _ (dSs cl11 cs (dropS b_law 11))) _ _ = _
  rw [seq_nx e9]
  subst hl
  exact (seq_nx e10).trans t
theorem from0 (x : Option D) (cells : List Int) (m c : Int) (hc : cells.length ≤ 63) : ∃ h', dSs cl11 cs (dropS b_law 9) (en0 x) (pot cells m c [.lst sh0, .lst ev0]) = .ok (.rt (.d (.bl true))) h' :=
  rest9 0 (by decide) (by decide) lad0 (by kernel_rfl) (fun h => by kernel_rfl) x (some (.lst rows0)) _ none none none _ _ _ none none none none none sh0 ev0 tab0 m tabs0 (by kernel_rfl) (by decide) (by decide) (body0 x) cells c hc none none none none none
theorem all0 (x : Option D) (cells : List Int) (m c : Int) (hc : cells.length ≤ 63) : ∃ h', dSs cl11 cs (dropS b_law 2) [x, some (.ref 1), some (.int 0), none, none, none, none, none, none, none, none, none, none, none, none, none, none, none, none, none, none, none, none, none] (pot cells m c []) = .ok (.rt (.d (.bl true))) h' := by
  obtain ⟨h', e⟩ := from0 x cells m c hc
  exact ⟨h', (take_drop cl11 cs 3 (dropS b_law 2) _ _ _ _ (mida0 x cells m c)).trans ((take_drop cl11 cs 4 (dropS b_law 5) _ _ _ _ (midb0 x cells m c)).trans e)⟩
theorem from1 (x : Option D) (cells : List Int) (m c : Int) (hc : cells.length ≤ 63) : ∃ h', dSs cl11 cs (dropS b_law 9) (en1 x) (pot cells m c [.lst sh1, .lst ev1]) = .ok (.rt (.d (.bl true))) h' :=
  rest9 1 (by decide) (by decide) lad1 (by kernel_rfl) (fun h => by kernel_rfl) x (some (.lst rows1)) _ none none none _ _ _ none none none none none sh1 ev1 tab1 m tabs1 (by kernel_rfl) (by decide) (by decide) (body1 x) cells c hc none none none none none
theorem all1 (x : Option D) (cells : List Int) (m c : Int) (hc : cells.length ≤ 63) : ∃ h', dSs cl11 cs (dropS b_law 2) [x, some (.ref 1), some (.int 1), none, none, none, none, none, none, none, none, none, none, none, none, none, none, none, none, none, none, none, none, none] (pot cells m c []) = .ok (.rt (.d (.bl true))) h' := by
  obtain ⟨h', e⟩ := from1 x cells m c hc
  exact ⟨h', (take_drop cl11 cs 3 (dropS b_law 2) _ _ _ _ (mida1 x cells m c)).trans ((take_drop cl11 cs 4 (dropS b_law 5) _ _ _ _ (midb1 x cells m c)).trans e)⟩
theorem from2 (x : Option D) (cells : List Int) (m c : Int) (hc : cells.length ≤ 63) : ∃ h', dSs cl11 cs (dropS b_law 9) (en2 x) (pot cells m c [.lst sh2, .lst ev2]) = .ok (.rt (.d (.bl true))) h' :=
  rest9 2 (by decide) (by decide) lad2 (by kernel_rfl) (fun h => by kernel_rfl) x (some (.lst rows2)) _ none none none _ _ _ none none none none none sh2 ev2 tab2 m tabs2 (by kernel_rfl) (by decide) (by decide) (body2 x) cells c hc none none none none none
theorem all2 (x : Option D) (cells : List Int) (m c : Int) (hc : cells.length ≤ 63) : ∃ h', dSs cl11 cs (dropS b_law 2) [x, some (.ref 1), some (.int 2), none, none, none, none, none, none, none, none, none, none, none, none, none, none, none, none, none, none, none, none, none] (pot cells m c []) = .ok (.rt (.d (.bl true))) h' := by
  obtain ⟨h', e⟩ := from2 x cells m c hc
  exact ⟨h', (take_drop cl11 cs 3 (dropS b_law 2) _ _ _ _ (mida2 x cells m c)).trans ((take_drop cl11 cs 4 (dropS b_law 5) _ _ _ _ (midb2 x cells m c)).trans e)⟩
theorem from3 (x : Option D) (cells : List Int) (m c : Int) (hc : cells.length ≤ 63) : ∃ h', dSs cl11 cs (dropS b_law 9) (en3 x) (pot cells m c [.lst sh3, .lst ev3]) = .ok (.rt (.d (.bl true))) h' :=
  rest9 3 (by decide) (by decide) lad3 (by kernel_rfl) (fun h => by kernel_rfl) x (some (.lst rows3)) _ none none none _ _ _ none none none none none sh3 ev3 tab3 m tabs3 (by kernel_rfl) (by decide) (by decide) (body3 x) cells c hc none none none none none
theorem all3 (x : Option D) (cells : List Int) (m c : Int) (hc : cells.length ≤ 63) : ∃ h', dSs cl11 cs (dropS b_law 2) [x, some (.ref 1), some (.int 3), none, none, none, none, none, none, none, none, none, none, none, none, none, none, none, none, none, none, none, none, none] (pot cells m c []) = .ok (.rt (.d (.bl true))) h' := by
  obtain ⟨h', e⟩ := from3 x cells m c hc
  exact ⟨h', (take_drop cl11 cs 3 (dropS b_law 2) _ _ _ _ (mida3 x cells m c)).trans ((take_drop cl11 cs 4 (dropS b_law 5) _ _ _ _ (midb3 x cells m c)).trans e)⟩
theorem from4 (x : Option D) (cells : List Int) (m c : Int) (hc : cells.length ≤ 63) : ∃ h', dSs cl11 cs (dropS b_law 9) (en4 x) (pot cells m c [.lst sh4, .lst ev4]) = .ok (.rt (.d (.bl true))) h' :=
  rest9 4 (by decide) (by decide) lad4 (by kernel_rfl) (fun h => by kernel_rfl) x (some (.lst rows4)) _ none none none _ _ _ none none none none none sh4 ev4 tab4 m tabs4 (by kernel_rfl) (by decide) (by decide) (body4 x) cells c hc none none none none none
theorem all4 (x : Option D) (cells : List Int) (m c : Int) (hc : cells.length ≤ 63) : ∃ h', dSs cl11 cs (dropS b_law 2) [x, some (.ref 1), some (.int 4), none, none, none, none, none, none, none, none, none, none, none, none, none, none, none, none, none, none, none, none, none] (pot cells m c []) = .ok (.rt (.d (.bl true))) h' := by
  obtain ⟨h', e⟩ := from4 x cells m c hc
  exact ⟨h', (take_drop cl11 cs 3 (dropS b_law 2) _ _ _ _ (mida4 x cells m c)).trans ((take_drop cl11 cs 4 (dropS b_law 5) _ _ _ _ (midb4 x cells m c)).trans e)⟩
theorem from5 (x : Option D) (cells : List Int) (m c : Int) (hc : cells.length ≤ 63) : ∃ h', dSs cl11 cs (dropS b_law 9) (en5 x) (pot cells m c [.lst sh5, .lst ev5]) = .ok (.rt (.d (.bl true))) h' :=
  rest9 5 (by decide) (by decide) lad5 (by kernel_rfl) (fun h => by kernel_rfl) x (some (.lst rows5)) _ none none none _ _ _ none none none none none sh5 ev5 tab5 m tabs5 (by kernel_rfl) (by decide) (by decide) (body5 x) cells c hc none none none none none
theorem all5 (x : Option D) (cells : List Int) (m c : Int) (hc : cells.length ≤ 63) : ∃ h', dSs cl11 cs (dropS b_law 2) [x, some (.ref 1), some (.int 5), none, none, none, none, none, none, none, none, none, none, none, none, none, none, none, none, none, none, none, none, none] (pot cells m c []) = .ok (.rt (.d (.bl true))) h' := by
  obtain ⟨h', e⟩ := from5 x cells m c hc
  exact ⟨h', (take_drop cl11 cs 3 (dropS b_law 2) _ _ _ _ (mida5 x cells m c)).trans ((take_drop cl11 cs 4 (dropS b_law 5) _ _ _ _ (midb5 x cells m c)).trans e)⟩
theorem allR (r : Int) (r0 : 0 ≤ r) (r1 : r < 6) (x : Option D) (cells : List Int) (m c : Int) (hc : cells.length ≤ 63) : ∃ h', dSs cl11 cs (dropS b_law 2) [x, some (.ref 1), some (.int r), none, none, none, none, none, none, none, none, none, none, none, none, none, none, none, none, none, none, none, none, none] (pot cells m c []) = .ok (.rt (.d (.bl true))) h' := by
  have : r = 0 ∨ r = 1 ∨ r = 2 ∨ r = 3 ∨ r = 4 ∨ r = 5 := by omega
  rcases this with rfl | rfl | rfl | rfl | rfl | rfl
  · exact all0 x cells m c hc
  · exact all1 x cells m c hc
  · exact all2 x cells m c hc
  · exact all3 x cells m c hc
  · exact all4 x cells m c hc
  · exact all5 x cells m c hc
def depth : Nat := 12
theorem run : ∀ ns : List Int, ns.length ≤ 63 → ∃ h', runF cs fds depth 31 [.lst (ns.map D.int)] [] = .ok (.d (.bl true)) h' := by
  intro ns hn
  obtain ⟨cells, m, e0, l0⟩ := pot_call (cs := cs) (fds := fds) (k := 10) (i := 21) (fd := f__law_pot) rfl rfl rfl rfl rfl ns hn
  obtain ⟨z, cells1, c1, e1, z0, z1, l1⟩ := of_call (cs := cs) (fds := fds) (k := 10) (i := 22) (fd := f__law_of) rfl rfl rfl rfl rfl cells m 0 [] 3 (by decide) (by decide) l0
  have hy : ∃ y : Int, (if z = 0 then (6 : Int) else 4) = y ∧ 1 ≤ y ∧ y ≤ 6 := by
    by_cases g : z = 0
    · exact ⟨6, by rw [if_pos g], by decide, by decide⟩
    · exact ⟨4, by rw [if_neg g], by decide, by decide⟩
  obtain ⟨y, ey, y0, y1⟩ := hy
  obtain ⟨r, cells2, c2, e2, r0, r1, l2⟩ := of_call (cs := cs) (fds := fds) (k := 10) (i := 22) (fd := f__law_of) rfl rfl rfl rfl rfl cells1 m c1 [] y y0 (by omega) l1
  obtain ⟨h', e3⟩ := allR r r0 (by omega) (some (.lst (ns.map D.int))) cells2 m c2 l2
  refine ⟨[], ?_⟩
  have l0' : b_law = .cons (nthS b_law 0) (.cons (nthS b_law 1) (dropS b_law 2)) := rfl
  have a0 : dS cl11 cs (nthS b_law 0) [some (.lst (ns.map D.int)), none, none, none, none, none, none, none, none, none, none, none, none, none, none, none, none, none, none, none, none, none, none, none] [] = .ok (.nx [some (.lst (ns.map D.int)), some (.ref 1), none, none, none, none, none, none, none, none, none, none, none, none, none, none, none, none, none, none, none, none, none, none]) (pot cells m 0 []) := by
    show kAsg (kNm 1) (kCall cl11 21 (kCons (kV 0) kNil) kNil [0]) _ _ = _
    simp only [kAsg, kNm, kCall, kCons, kNil, kV, ok_bind, List.map_cons, List.map_nil, List.append_nil, al1, toD_d, e0,
        List.getElem?_cons_succ, List.getElem?_cons_zero, List.set_cons_succ, List.set_cons_zero, List.length_cons, List.length_nil, Nat.reduceAdd, Nat.reduceLT, if_true]
  have a1 : dS cl11 cs (nthS b_law 1) [some (.lst (ns.map D.int)), some (.ref 1), none, none, none, none, none, none, none, none, none, none, none, none, none, none, none, none, none, none, none, none, none, none] (pot cells m 0 []) = .ok (.nx [some (.lst (ns.map D.int)), some (.ref 1), some (.int r), none, none, none, none, none, none, none, none, none, none, none, none, none, none, none, none, none, none, none, none, none]) (pot cells2 m c2 []) := by
    show kAsg (kNm 2) (kCall cl11 22 (kCons (kV 1) (kCons (kIte (kCmp .Eq (kCall cl11 22 (kCons (kV 1) (kCons (kC (.int 3)) kNil)) kNil [0, 1]) (kC (.int 0))) (kC (.int 6)) (kC (.int 4))) kNil)) kNil [0, 1]) _ _ = _
    by_cases g : z = 0
    · rw [if_pos g] at ey
      subst ey
      have g' : decide (z = 0) = true := decide_eq_true g
      simp only [kAsg, kNm, kIte, kCmp, cmpD, kCall, kCons, kNil, kV, kC, ok_bind, List.map_cons, List.map_nil, List.cons_append, List.nil_append, List.append_nil, al2, toD_d, e1, e2, eq_i, g', blR_s, truth_bl,
        List.getElem?_cons_succ, List.getElem?_cons_zero, List.set_cons_succ, List.set_cons_zero, List.length_cons, List.length_nil, Nat.reduceAdd, Nat.reduceLT, if_true]
    · rw [if_neg g] at ey
      subst ey
      have g' : decide (z = 0) = false := decide_eq_false g
      simp only [kAsg, kNm, kIte, kCmp, cmpD, kCall, kCons, kNil, kV, kC, ok_bind, List.map_cons, List.map_nil, List.cons_append, List.nil_append, List.append_nil, al2, toD_d, e1, e2, eq_i, g', blR_s, truth_bl,
        List.getElem?_cons_succ, List.getElem?_cons_zero, List.set_cons_succ, List.set_cons_zero, List.length_cons, List.length_nil, Nat.reduceAdd, Nat.reduceLT, if_true]
  have body : dSs cl11 cs b_law [some (.lst (ns.map D.int)), none, none, none, none, none, none, none, none, none, none, none, none, none, none, none, none, none, none, none, none, none, none, none] [] = .ok (.rt (.d (.bl true))) h' := by
    rw [l0']
    show kSeq _ (kSeq _ (dSs cl11 cs (dropS b_law 2))) _ _ = _
    rw [seq_nx a0, seq_nx a1]
    exact e3
  show runF cs fds (11 + 1) 31 _ _ = _
  rw [run_rt (fd := f_law) (r := .d (.bl true)) (h' := h') rfl ⟨rfl, by decide⟩ body]
  rfl
end K99
end

section
set_option Elab.async false
set_option maxRecDepth 100000
set_option maxHeartbeats 0
namespace K99
open MP PySem
end K99
open PySem PySem.W PyProof.Rows
set_option maxHeartbeats 0 in
theorem PySem.Challenge.cw_equalsums_k99_whole_ladders_and_lists_holds : PySem.Challenge.rw_equalsums_k99_whole_ladders_and_lists.Holds := by
  w_on; o_law; k_head; (case hw => w_witness2)
  k_fill
  refine MP.law_of (l := PySem.Challenge.rw_equalsums_k99_whole_ladders_and_lists) (cs := K99.cs) (cn := K99.cn) (fds := K99.fds) (sts := K99.sts) (i := 31) (k := K99.depth) rfl rfl ⟨rfl, by decide, by decide⟩ (fun w h Y => PySem.W.kIn_of Y) ?O rfl (by decide) rfl K99.run
  case O =>
    intro w mg h KX G
    have h_line_sums : MP.HasM (L2.KOf KX) mg ("line_sums" : PySem.Str) (K99.topS 2) := by
      refine' MP.hasM_mk KX G ?a ?l ?c ?k
      (case a => k_is); (case l => k_is); (case c => k_is); (case k => k_is)
    have h_broken_sums : MP.HasM (L2.KOf KX) mg ("broken_sums" : PySem.Str) (K99.topS 3) := by
      refine' MP.hasM_mk KX G ?a ?l ?c ?k
      (case a => k_is); (case l => k_is); (case c => k_is); (case k => k_is)
    have h_is_even_square : MP.HasM (L2.KOf KX) mg ("is_even_square" : PySem.Str) (K99.topS 4) := by
      refine' MP.hasM_mk KX G ?a ?l ?c ?k
      (case a => k_is); (case l => k_is); (case c => k_is); (case k => k_is)
    have h_is_broken_even : MP.HasM (L2.KOf KX) mg ("is_broken_even" : PySem.Str) (K99.topS 5) := by
      refine' MP.hasM_mk KX G ?a ?l ?c ?k
      (case a => k_is); (case l => k_is); (case c => k_is); (case k => k_is)
    have h_three_square : MP.HasM (L2.KOf KX) mg ("three_square" : PySem.Str) (K99.topS 7) := by
      refine' MP.hasM_mk KX G ?a ?l ?c ?k
      (case a => k_is); (case l => k_is); (case c => k_is); (case k => k_is)
    have h_three_number : MP.HasM (L2.KOf KX) mg ("three_number" : PySem.Str) (K99.topS 8) := by
      refine' MP.hasM_mk KX G ?a ?l ?c ?k
      (case a => k_is); (case l => k_is); (case c => k_is); (case k => k_is)
    have h_threes_listed : MP.HasM (L2.KOf KX) mg ("threes_listed" : PySem.Str) (K99.topS 9) := by
      refine' MP.hasM_mk KX G ?a ?l ?c ?k
      (case a => k_is); (case l => k_is); (case c => k_is); (case k => k_is)
    have h_is_integer : MP.HasM (L2.KOf KX) mg ("is_integer" : PySem.Str) (K99.topS 14) := by
      refine' MP.hasM_mk KX G ?a ?l ?c ?k
      (case a => k_is); (case l => k_is); (case c => k_is); (case k => k_is)
    have h_kinds_of : MP.HasM (L2.KOf KX) mg ("kinds_of" : PySem.Str) (K99.topS 17) := by
      refine' MP.hasM_mk KX G ?a ?l ?c ?k
      (case a => k_is); (case l => k_is); (case c => k_is); (case k => k_is)
    have h_rows_number : MP.HasM (L2.KOf KX) mg ("rows_number" : PySem.Str) (K99.topS 18) := by
      refine' MP.hasM_mk KX G ?a ?l ?c ?k
      (case a => k_is); (case l => k_is); (case c => k_is); (case k => k_is)
    have h_four_of : MP.HasM (L2.KOf KX) mg ("four_of" : PySem.Str) (K99.topS 19) := by
      refine' MP.hasM_mk KX G ?a ?l ?c ?k
      (case a => k_is); (case l => k_is); (case c => k_is); (case k => k_is)
    have h_three_ladder : MP.HasM (L2.KOf KX) mg ("three_ladder" : PySem.Str) (K99.topS 20) := by
      refine' MP.hasM_mk KX G ?a ?l ?c ?k
      (case a => k_is); (case l => k_is); (case c => k_is); (case k => k_is)
    have h_has_form : MP.HasM (L2.KOf KX) mg ("has_form" : PySem.Str) (K99.topS 21) := by
      refine' MP.hasM_mk KX G ?a ?l ?c ?k
      (case a => k_is); (case l => k_is); (case c => k_is); (case k => k_is)
    have h_three_ladder_error : MP.HasM (L2.KOf KX) mg ("three_ladder_error" : PySem.Str) (K99.topS 22) := by
      refine' MP.hasM_mk KX G ?a ?l ?c ?k
      (case a => k_is); (case l => k_is); (case c => k_is); (case k => k_is)
    have h_choose_any : MP.HasM (L2.KOf KX) mg ("choose_any" : PySem.Str) (K99.topS 25) := by
      refine' MP.hasM_mk KX G ?a ?l ?c ?k
      (case a => k_is); (case l => k_is); (case c => k_is); (case k => k_is)
    have h_sheets_number : MP.HasM (L2.KOf KX) mg ("sheets_number" : PySem.Str) (K99.topS 26) := by
      refine' MP.hasM_mk KX G ?a ?l ?c ?k
      (case a => k_is); (case l => k_is); (case c => k_is); (case k => k_is)
    have h_rows_within : MP.HasM (L2.KOf KX) mg ("rows_within" : PySem.Str) (K99.topS 27) := by
      refine' MP.hasM_mk KX G ?a ?l ?c ?k
      (case a => k_is); (case l => k_is); (case c => k_is); (case k => k_is)
    have h_less_row : MP.HasM (L2.KOf KX) mg ("less_row" : PySem.Str) (K99.topS 28) := by
      refine' MP.hasM_mk KX G ?a ?l ?c ?k
      (case a => k_is); (case l => k_is); (case c => k_is); (case k => k_is)
    have h_sheets_listed : MP.HasM (L2.KOf KX) mg ("sheets_listed" : PySem.Str) (K99.topS 29) := by
      refine' MP.hasM_mk KX G ?a ?l ?c ?k
      (case a => k_is); (case l => k_is); (case c => k_is); (case k => k_is)
    have h_column_sums : MP.HasM (L2.KOf KX) mg ("column_sums" : PySem.Str) (K99.topS 31) := by
      refine' MP.hasM_mk KX G ?a ?l ?c ?k
      (case a => k_is); (case l => k_is); (case c => k_is); (case k => k_is)
    have h_unlike_line : MP.HasM (L2.KOf KX) mg ("unlike_line" : PySem.Str) (K99.topS 32) := by
      refine' MP.hasM_mk KX G ?a ?l ?c ?k
      (case a => k_is); (case l => k_is); (case c => k_is); (case k => k_is)
    have h__law_pot : MP.HasM (L2.KOf KX) mg ("_law_pot" : PySem.Str) (K99.topS 34) := by
      refine' MP.hasM_mk KX G ?a ?l ?c ?k
      (case a => k_is); (case l => k_is); (case c => k_is); (case k => k_is)
    have h__law_of : MP.HasM (L2.KOf KX) mg ("_law_of" : PySem.Str) (K99.topS 35) := by
      refine' MP.hasM_mk KX G ?a ?l ?c ?k
      (case a => k_is); (case l => k_is); (case c => k_is); (case k => k_is)
    have h__law_one : MP.HasM (L2.KOf KX) mg ("_law_one" : PySem.Str) (K99.topS 36) := by
      refine' MP.hasM_mk KX G ?a ?l ?c ?k
      (case a => k_is); (case l => k_is); (case c => k_is); (case k => k_is)
    have h__law_flat : MP.HasM (L2.KOf KX) mg ("_law_flat" : PySem.Str) (K99.topS 37) := by
      refine' MP.hasM_mk KX G ?a ?l ?c ?k
      (case a => k_is); (case l => k_is); (case c => k_is); (case k => k_is)
    have h__law_lines : MP.HasM (L2.KOf KX) mg ("_law_lines" : PySem.Str) (K99.topS 38) := by
      refine' MP.hasM_mk KX G ?a ?l ?c ?k
      (case a => k_is); (case l => k_is); (case c => k_is); (case k => k_is)
    have h__law_line_sums : MP.HasM (L2.KOf KX) mg ("_law_line_sums" : PySem.Str) (K99.topS 39) := by
      refine' MP.hasM_mk KX G ?a ?l ?c ?k
      (case a => k_is); (case l => k_is); (case c => k_is); (case k => k_is)
    have h__law_is_even : MP.HasM (L2.KOf KX) mg ("_law_is_even" : PySem.Str) (K99.topS 40) := by
      refine' MP.hasM_mk KX G ?a ?l ?c ?k
      (case a => k_is); (case l => k_is); (case c => k_is); (case k => k_is)
    have h__law_broken_lines : MP.HasM (L2.KOf KX) mg ("_law_broken_lines" : PySem.Str) (K99.topS 41) := by
      refine' MP.hasM_mk KX G ?a ?l ?c ?k
      (case a => k_is); (case l => k_is); (case c => k_is); (case k => k_is)
    have h__law_is_broken : MP.HasM (L2.KOf KX) mg ("_law_is_broken" : PySem.Str) (K99.topS 42) := by
      refine' MP.hasM_mk KX G ?a ?l ?c ?k
      (case a => k_is); (case l => k_is); (case c => k_is); (case k => k_is)
    have h__law_raised : MP.HasM (L2.KOf KX) mg ("_law_raised" : PySem.Str) (K99.topS 43) := by
      refine' MP.hasM_mk KX G ?a ?l ?c ?k
      (case a => k_is); (case l => k_is); (case c => k_is); (case k => k_is)
    have h_law : MP.HasM (L2.KOf KX) mg ("law" : PySem.Str) (K99.topS 44) := by
      refine' MP.hasM_mk KX G ?a ?l ?c ?k
      (case a => k_is); (case l => k_is); (case c => k_is); (case k => k_is)
    have hb : ∀ x, x ∈ MP.bltNames → mg x = none := by
      refine' MP.blt_mk KX G ?b1 ?b2 ?b3 ?b4 ?b5 ?b6 ?b7 ?b8 ?b9 ?b10 ?b11 ?b12 ?b13 ?b14 ?b15 ?b16 ?b17 ?b18 ?b19
      (case b1 => k_is); (case b2 => k_is); (case b3 => k_is); (case b4 => k_is); (case b5 => k_is); (case b6 => k_is); (case b7 => k_is); (case b8 => k_is); (case b9 => k_is); (case b10 => k_is); (case b11 => k_is); (case b12 => k_is); (case b13 => k_is); (case b14 => k_is); (case b15 => k_is); (case b16 => k_is); (case b17 => k_is); (case b18 => k_is); (case b19 => k_is)
    have k_MAX_LISTED : ∃ u, mg (K99.cn.getD 0 MP.n_len) = some u ∧ MP.vrK (L2.KOf KX) 6 K99.c_MAX_LISTED u = true := by
      refine' MP.hasC_mk (nm := ("MAX_LISTED" : PySem.Str)) KX G ?a ?v ?e
      (case a => k_is); (case v => kernel_rfl); (case e => decide)
    have k_WORDS : ∃ u, mg (K99.cn.getD 1 MP.n_len) = some u ∧ MP.vrK (L2.KOf KX) 6 K99.c_WORDS u = true := by
      refine' MP.hasC_mk (nm := ("WORDS" : PySem.Str)) KX G ?a ?v ?e
      (case a => k_is); (case v => kernel_rfl); (case e => decide)
    have k_ROWS : ∃ u, mg (K99.cn.getD 2 MP.n_len) = some u ∧ MP.vrK (L2.KOf KX) 6 K99.c_ROWS u = true := by
      refine' MP.hasC_mk (nm := ("ROWS" : PySem.Str)) KX G ?a ?v ?e
      (case a => k_is); (case v => kernel_rfl); (case e => decide)
    exact ⟨K99.chk, rfl, MP.HasL.all ⟨h_line_sums.named (by decide), h_broken_sums.named (by decide), h_is_even_square.named (by decide), h_is_broken_even.named (by decide), h_three_square.named (by decide), h_three_number.named (by decide), h_threes_listed.named (by decide), h_is_integer.named (by decide), h_kinds_of.named (by decide), h_rows_number.named (by decide), h_four_of.named (by decide), h_three_ladder.named (by decide), h_has_form.named (by decide), h_three_ladder_error.named (by decide), h_choose_any.named (by decide), h_sheets_number.named (by decide), h_rows_within.named (by decide), h_less_row.named (by decide), h_sheets_listed.named (by decide), h_column_sums.named (by decide), h_unlike_line.named (by decide), h__law_pot.named (by decide), h__law_of.named (by decide), h__law_one.named (by decide), h__law_flat.named (by decide), h__law_lines.named (by decide), h__law_line_sums.named (by decide), h__law_is_even.named (by decide), h__law_broken_lines.named (by decide), h__law_is_broken.named (by decide), h__law_raised.named (by decide), h_law.named (by decide), trivial⟩, hb, MP.HasC.all (cn := K99.cn) (cs := K99.cs) ⟨k_MAX_LISTED, k_WORDS, k_ROWS, trivial⟩⟩
end
